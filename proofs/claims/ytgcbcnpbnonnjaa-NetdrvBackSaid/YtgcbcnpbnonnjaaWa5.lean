/- The functions do what the plain words say: each is walked once. No statement of the seat is proved here; no condition. -/
import Derived.Test.YtgcbcnpbnonnjaaWa4
namespace Go.Proofs.Ytgcbcnpbnonnjaa
attribute [local irreducible] sub
set_option maxRecDepth 100000 in
set_option maxHeartbeats 4000000 in
theorem w_law26zlives  {r : Bool} (h : law26zlives = some r) :
  Ctr Try.prog 7 #[] [] []
   (fun rv own shr => rv = vB r ∧ own = [] ∧ shr = []) := by
 unfold law26zlives at h
 refine Ctr.mk (args := []) Try.func7 rfl rfl (fun R0 w0 B => ?_)
 refine Qe (Qb (sAs rfl rfl rfl ?_))
 refine nW [] [] [] [] [] [] rfl ?_
 refine Qe (Qb (Qa rfl (Zd (v := .agg #[vU64 (0 : UInt64), vU64 (4096 : UInt64)]) rfl rfl rfl rfl (bldV (by kernel_rfl))) ?_))
 refine Qq rfl (QF (S := Qf) (xs := [(Region.mk (0 : UInt64) (4096 : UInt64))]) (css := [[vU64 (0 : UInt64), vU64 (4096 : UInt64)]]) (cs := [vU64 (0 : UInt64), vU64 (4096 : UInt64)]) (e := 75) rfl rfl rfl rfl (bldF slF42 (by decide) (by kernel_rfl)) rfl rfl rfl rfl (Ze (S := Qf) (xs := [(Region.mk (0 : UInt64) (4096 : UInt64))]) (css := [[vU64 (0 : UInt64), vU64 (4096 : UInt64)]]) rfl rfl)) fun v1 => ?_
 refine Zn (i := 0) rfl ?_
 obtain ⟨new1, hx1, h⟩ := ob_e h
 refine Qt rfl (QO (w_gmem_New hx1) [] [0] rfl rfl rfl rfl rfl callee11 rfl rfl rfl rfl) ?_
 rintro _ ⟨_, _, _, ⟨v2, rfl, rfl, rfl⟩, rfl⟩
 refine sMv rfl rfl rfl ?_
 refine Qa rfl (Qs rfl rfl rfl rfl rfl) ?_
 refine Qa rfl (Qs rfl rfl rfl rfl rfl) ?_
 refine sAs rfl rfl rfl ?_
 refine sAs rfl rfl rfl ?_
 refine nW [(1, some v2), (2, some (vI new1.2))] [some (optR 82 Qf u8S true gmem_Mem.l gmem_Mem.b v2 new1.1)] [] [1, 2] [1] [] rfl ?_
 rcases onO_cases h with ⟨ho1, h⟩ | ⟨mem1, ho1, h⟩
 ·cases h
 ·refine Tk_optS (i := 0) rfl ho1 ?_
  rintro b1 v3 v4 vs1 rfl
  refine Qe (Qb (Qa rfl (Zd (v := .agg #[vU64 (0 : UInt64), vU64 (4096 : UInt64)]) rfl rfl rfl rfl (bldV (by kernel_rfl))) ?_))
  refine Qq rfl (QF (S := Qf) (xs := [(Region.mk (0 : UInt64) (4096 : UInt64))]) (css := [[vU64 (0 : UInt64), vU64 (4096 : UInt64)]]) (cs := [vU64 (0 : UInt64), vU64 (4096 : UInt64)]) (e := 75) rfl rfl rfl rfl (bldF slF42 (by decide) (by kernel_rfl)) rfl rfl rfl rfl (Ze (S := Qf) (xs := [(Region.mk (0 : UInt64) (4096 : UInt64))]) (css := [[vU64 (0 : UInt64), vU64 (4096 : UInt64)]]) rfl rfl)) fun v5 => ?_
  refine Zn (i := 2) rfl ?_
  obtain ⟨new2, hx2, h⟩ := ob_e h
  refine Qt rfl (QO (w_ref_New02 hx2) [] [1] rfl rfl rfl rfl rfl callee13 rfl rfl rfl rfl) ?_
  rintro _ ⟨_, _, _, ⟨v6, rfl, rfl, rfl⟩, rfl⟩
  refine sMv rfl rfl rfl ?_
  refine Qa rfl (Qs rfl rfl rfl rfl rfl) ?_
  refine Qa rfl (Qs rfl rfl rfl rfl rfl) ?_
  refine sAs rfl rfl rfl ?_
  refine sAs rfl rfl rfl ?_
  refine nW [(1, some (.pointer (some ⟨b1, 0, none⟩))), (2, some (vI new1.2)), (3, some v6), (4, some (vI new2.2))] [some (Qd b1 82 [v3, v4]), some (Qj u8S true v4 vs1 mem1.b none), some (optR 84 Qf u8S false dumbwaiterref02_Mem.L dumbwaiterref02_Mem.B v6 new2.1)] [Fact.sl Qf v3 mem1.l] [1, 2, 3, 4] [0, 1, 3] [0] rfl ?_
  rcases onO_cases h with ⟨ho2, h⟩ | ⟨mem2, ho2, h⟩
  ·cases h
  ·refine Tk_optS (i := 2) rfl ho2 ?_
   rintro b2 v7 v8 vs2 rfl
   refine Qe (Qe (Qb (sMv rfl rfl rfl ?_)))
   refine Qa rfl (Qg rfl rfl rfl rfl rfl (QU (a := new1.2) (b := (0 : Int)))) ?_
   refine sMv rfl rfl rfl ?_
   rcases bC (new1.2 != (0 : Int)) with hg1 | hg1
   ·replace h := br_t hg1 h
    refine Qh rfl rfl (cgb hg1) rfl rfl ?_
    refine Qh rfl rfl (cgb hg1) rfl rfl ?_
    refine Qa rfl (Qw rfl rfl rfl (cgb hg1) rfl) ?_
    refine nW [(1, some (.pointer (some ⟨b1, 0, none⟩))), (3, some (.pointer (some ⟨b2, 0, none⟩))), (28, some (vB true))] [some (Qd b1 82 [v3, v4]), some (Qj u8S true v4 vs1 mem1.b none), some (Qd b2 84 [v7, v8]), some (Qj u8S false v8 vs2 mem2.B none)] [Fact.sl Qf v3 mem1.l, Fact.sl Qf v7 mem2.L] [1, 3, 28] [0, 1, 2, 3] [0, 1] rfl ?_
    refine Ql rfl ?_
    refine Qe (Qb (sAs rfl rfl rfl ?_))
    refine nW [(0, some (vB false))] [] [] [0] [] [] rfl ?_
    obtain rfl := Option.some.inj h
    exact Qn rfl rfl (resA (vs := [vB false]) rfl ⟨rfl, trivial⟩) [] [] rfl rfl rfl ⟨rfl, rfl, rfl⟩
   ·replace h := br_f hg1 h
    refine Qi rfl rfl (cgb hg1) (Qk rfl rfl rfl rfl) ?_
    rintro _ rfl
    refine Qi rfl rfl (cgb hg1) (Qg rfl rfl rfl rfl rfl (QU (a := new2.2) (b := (0 : Int)))) ?_
    rintro _ rfl
    refine Qa rfl (Qu rfl rfl rfl (cgb hg1) rfl) ?_
    refine nW [(1, some (.pointer (some ⟨b1, 0, none⟩))), (3, some (.pointer (some ⟨b2, 0, none⟩))), (28, some (vB (new2.2 != (0 : Int))))] [some (Qd b1 82 [v3, v4]), some (Qj u8S true v4 vs1 mem1.b none), some (Qd b2 84 [v7, v8]), some (Qj u8S false v8 vs2 mem2.B none)] [Fact.sl Qf v3 mem1.l, Fact.sl Qf v7 mem2.L] [1, 3, 28] [0, 1, 2, 3] [0, 1] rfl ?_
    rcases bC (new2.2 != (0 : Int)) with hg2 | hg2
    ·replace h := br_t hg2 h
     refine Ql (cgb hg2) ?_
     refine Qe (Qb (sAs rfl rfl rfl ?_))
     refine nW [(0, some (vB false))] [] [] [0] [] [] rfl ?_
     obtain rfl := Option.some.inj h
     exact Qn rfl rfl (resA (vs := [vB false]) rfl ⟨rfl, trivial⟩) [] [] rfl rfl rfl ⟨rfl, rfl, rfl⟩
    ·replace h := br_f hg2 h
     refine Qm (cgb hg2) ?_
     refine Qr (Qe (Qb ?_))
     obtain ⟨hc1, h⟩ := Zi h
     refine Qq rfl (OpT_makeD u8S rfl (u := (0 : UInt8)) rfl rfl rfl rfl rfl Xg rfl hc1) fun v9 => ?_
     refine Qa rfl (OpT_build1 (fun z0 => [(2, vI ((-1) : Int)), (3, vU16 (2048 : UInt16)), (4, z0)]) (fun z0 => [vU8 (0 : UInt8), vU8 (0 : UInt8), vU8 (0 : UInt8), vU8 (0 : UInt8), vU8 (0 : UInt8), vU8 (0 : UInt8), vU8 (0 : UInt8), vU8 (0 : UInt8), vU8 (0 : UInt8), vU8 (0 : UInt8), vU8 (0 : UInt8), vU8 (0 : UInt8), vI ((-1) : Int), vU16 (2048 : UInt16), z0]) rfl rfl rfl rfl (is_row (i := 4) rfl) (by intros; kernel_rfl)) ?_
     refine Qq rfl (Zq rfl rfl rfl tyZ37) fun b3 => ?_
     refine Qa rfl (OpT_storeA1 (fun z0 => [vU8 (0 : UInt8), vU8 (0 : UInt8), vU8 (0 : UInt8), vU8 (0 : UInt8), vU8 (0 : UInt8), vU8 (0 : UInt8), vU8 (0 : UInt8), vU8 (0 : UInt8), vU8 (0 : UInt8), vU8 (0 : UInt8), vU8 (0 : UInt8), vU8 (0 : UInt8), vI ((-1) : Int), vU16 (2048 : UInt16), z0]) (cs' := [vU8 (0 : UInt8), vU8 (0 : UInt8), vU8 (0 : UInt8), vU8 (0 : UInt8), vU8 (0 : UInt8), vU8 (0 : UInt8), vU8 (0 : UInt8), vU8 (0 : UInt8), vU8 (0 : UInt8), vU8 (0 : UInt8), vU8 (0 : UInt8), vU8 (0 : UInt8), vI ((-1) : Int), vU16 (2048 : UInt16), v9]) rfl rfl rfl rfl Xo (i := 5) rfl (is_row (i := 4) rfl) (fun _ _ _ => rfl) rfl rfl rfl) ?_
     refine nW [(1, some (.pointer (some ⟨b1, 0, none⟩))), (3, some (.pointer (some ⟨b2, 0, none⟩))), (5, some (.pointer (some ⟨b3, 0, none⟩)))] [some (Qd b1 82 [v3, v4]), some (Qj u8S true v4 vs1 mem1.b none), some (Qd b2 84 [v7, v8]), some (Qj u8S false v8 vs2 mem2.B none), some (rowS u8S v9 (List.replicate (10 : Int).toNat (0 : UInt8))), some (Qd b3 37 [vU8 (0 : UInt8), vU8 (0 : UInt8), vU8 (0 : UInt8), vU8 (0 : UInt8), vU8 (0 : UInt8), vU8 (0 : UInt8), vU8 (0 : UInt8), vU8 (0 : UInt8), vU8 (0 : UInt8), vU8 (0 : UInt8), vU8 (0 : UInt8), vU8 (0 : UInt8), vI ((-1) : Int), vU16 (2048 : UInt16), v9])] [Fact.sl Qf v3 mem1.l, Fact.sl Qf v7 mem2.L] [1, 3, 5] [0, 1, 2, 3, 4, 5] [0, 1] rfl ?_
     refine Qe (Qb (sMv rfl rfl rfl ?_))
     refine Qa rfl (Zx (vs := [vU8 (0 : UInt8), vU8 (0 : UInt8), vU8 (0 : UInt8), vU8 (0 : UInt8), vU8 (0 : UInt8), vU8 (0 : UInt8), vU8 (0 : UInt8), vU8 (0 : UInt8), vU8 (0 : UInt8), vU8 (0 : UInt8), vU8 (0 : UInt8), vU8 (0 : UInt8), vI ((-1) : Int), vU16 (2048 : UInt16), v9]) rfl rfl rfl rfl Xo (i := 5) rfl rfl rfl) ?_
     refine Qq rfl (QF (S := iS) (xs := [(12 : Int)]) (css := [[vI (12 : Int)]]) (cs := [vI (12 : Int)]) (e := 3) rfl rfl rfl rfl (bldF slF23 (by decide) (by kernel_rfl)) rfl rfl rfl rfl (Ze (S := iS) (xs := [(12 : Int)]) (css := [[vI (12 : Int)]]) rfl rfl)) fun v10 => ?_
     obtain ⟨lay1, hx3, h⟩ := ob_e h
     refine Qt rfl (Zj [4, 6] [7, 8, 2, 3, 4, 5, 6, 9] (w_netdrv_Lay hx3) [0, 1] rfl rfl rfl rfl rfl callee15 rfl rfl rfl rfl rfl rfl (QV (bor_shr 0 rfl) (QV (ZO 4 rfl rfl) (QV (ZO 6 rfl rfl) Xe))) (by rintro _ _ _ ⟨_, rfl, rfl, rfl⟩; exact ⟨rfl, (ZL (ri_cells _ _ _) (ZL (ri_rows rfl _ _ _ _ _) (ZL (ri_row (S := SegS) rfl _ _) Ye)))⟩)) ?_
     rintro _ ⟨_, _, _, ⟨v11, rfl, rfl, rfl⟩, rfl⟩
     refine sMv rfl rfl rfl ?_
     refine Qa rfl (Qs rfl rfl rfl rfl rfl) ?_
     refine Qa rfl (Qs rfl rfl rfl rfl rfl) ?_
     refine sAs rfl rfl rfl ?_
     refine sAs rfl rfl rfl ?_
     refine nW [(1, some (.pointer (some ⟨b1, 0, none⟩))), (3, some (.pointer (some ⟨b2, 0, none⟩))), (5, some (.pointer (some ⟨b3, 0, none⟩))), (6, some v11), (2, some (vI lay1.2.1))] [some (Qd b1 82 [v3, v4]), some (Qj u8S true v4 vs1 lay1.2.2 none), some (Qd b2 84 [v7, v8]), some (Qj u8S false v8 vs2 mem2.B none), some (rowS u8S v9 (List.replicate (10 : Int).toNat (0 : UInt8))), some (Qd b3 37 [vU8 (0 : UInt8), vU8 (0 : UInt8), vU8 (0 : UInt8), vU8 (0 : UInt8), vU8 (0 : UInt8), vU8 (0 : UInt8), vU8 (0 : UInt8), vU8 (0 : UInt8), vU8 (0 : UInt8), vU8 (0 : UInt8), vU8 (0 : UInt8), vU8 (0 : UInt8), vI ((-1) : Int), vU16 (2048 : UInt16), v9]), some (rowS SegS v11 lay1.1)] [Fact.sl Qf v3 mem1.l, Fact.sl Qf v7 mem2.L] [1, 3, 5, 6, 2] [0, 1, 2, 3, 4, 5, 7] [0, 1] rfl ?_
     refine Qe (Qb (Tops_nilfact iS ?_))
     obtain ⟨post1, hx4, h⟩ := ob_e h
     refine Qt rfl (QO (w_netdrv_Post hx4) [] [2] rfl rfl rfl rfl rfl callee8 rfl rfl rfl rfl) ?_
     rintro _ ⟨v12, _, _, ⟨_, rfl, rfl, rfl⟩, rfl⟩
     refine sAs rfl rfl rfl ?_
     refine nW [(1, some (.pointer (some ⟨b1, 0, none⟩))), (3, some (.pointer (some ⟨b2, 0, none⟩))), (5, some (.pointer (some ⟨b3, 0, none⟩))), (6, some v11), (2, some (vI lay1.2.1)), (7, some v12)] [some (Qd b1 82 [v3, v4]), some (Qj u8S true v4 vs1 lay1.2.2 none), some (Qd b2 84 [v7, v8]), some (Qj u8S false v8 vs2 mem2.B none), some (rowS u8S v9 (List.replicate (10 : Int).toNat (0 : UInt8))), some (Qd b3 37 [vU8 (0 : UInt8), vU8 (0 : UInt8), vU8 (0 : UInt8), vU8 (0 : UInt8), vU8 (0 : UInt8), vU8 (0 : UInt8), vU8 (0 : UInt8), vU8 (0 : UInt8), vU8 (0 : UInt8), vU8 (0 : UInt8), vU8 (0 : UInt8), vU8 (0 : UInt8), vI ((-1) : Int), vU16 (2048 : UInt16), v9]), some (rowS SegS v11 lay1.1), some (rowS SegS v12 post1)] [Fact.sl Qf v3 mem1.l, Fact.sl Qf v7 mem2.L] [1, 3, 5, 6, 2, 7] [0, 1, 2, 3, 4, 5, 6, 7] [0, 1] rfl ?_
     refine Qe (Qb (sMv rfl rfl rfl ?_))
     refine sMv rfl rfl rfl ?_
     refine Zn (i := 7) rfl ?_
     refine Qq rfl (YV (Shape.slice SegS) (vs := [v12]) (xs := [post1]) rfl rfl rfl rfl rfl slF59 (isl_cons (is_sl (i := 2) rfl) isl_nil) rfl rfl rfl (rel_cons (rel_sl (i := 2) rfl) (rel_nil rfl))) fun v13 => ?_
     refine Qa rfl (Zx (vs := [vU8 (0 : UInt8), vU8 (0 : UInt8), vU8 (0 : UInt8), vU8 (0 : UInt8), vU8 (0 : UInt8), vU8 (0 : UInt8), vU8 (0 : UInt8), vU8 (0 : UInt8), vU8 (0 : UInt8), vU8 (0 : UInt8), vU8 (0 : UInt8), vU8 (0 : UInt8), vI ((-1) : Int), vU16 (2048 : UInt16), v9]) rfl rfl rfl rfl Xo (i := 5) rfl rfl rfl) ?_
     obtain ⟨delive1, hx5, h⟩ := ob_e h
     refine Qt rfl (Zj [8, 4] [0, 1, 9, 10, 4, 5, 6, 7, 8, 11] (w_ref_Deliver25 hx5) [2, 3] rfl rfl rfl rfl rfl callee23 rfl rfl rfl rfl rfl rfl (QV (bor_shr 1 rfl) (QV (ZO 8 rfl rfl) (QV (ZO 4 rfl rfl) Xe))) (by rintro _ _ _ ⟨_, rfl, rfl, rfl⟩; exact ⟨rfl, (ZL (ri_cells _ _ _) (ZL (ri_rows rfl _ _ _ _ _) (ZL (ri_row (S := u32S) rfl _ _) Ye)))⟩)) ?_
     rintro _ ⟨_, _, _, ⟨v14, rfl, rfl, rfl⟩, rfl⟩
     refine sMv rfl rfl rfl ?_
     refine Qa rfl (Qs rfl rfl rfl rfl rfl) ?_
     refine Qa rfl (Qs rfl rfl rfl rfl rfl) ?_
     refine sAs rfl rfl rfl ?_
     refine sAs rfl rfl rfl ?_
     refine nW [(1, some (.pointer (some ⟨b1, 0, none⟩))), (3, some (.pointer (some ⟨b2, 0, none⟩))), (5, some (.pointer (some ⟨b3, 0, none⟩))), (6, some v11), (2, some (vI lay1.2.1)), (7, some v12), (8, some v14), (4, some (vI delive1.2.1))] [some (Qd b1 82 [v3, v4]), some (Qj u8S true v4 vs1 lay1.2.2 none), some (Qd b2 84 [v7, v8]), some (Qj u8S false v8 vs2 delive1.2.2 none), some (rowS u8S v9 (List.replicate (10 : Int).toNat (0 : UInt8))), some (Qd b3 37 [vU8 (0 : UInt8), vU8 (0 : UInt8), vU8 (0 : UInt8), vU8 (0 : UInt8), vU8 (0 : UInt8), vU8 (0 : UInt8), vU8 (0 : UInt8), vU8 (0 : UInt8), vU8 (0 : UInt8), vU8 (0 : UInt8), vU8 (0 : UInt8), vU8 (0 : UInt8), vI ((-1) : Int), vU16 (2048 : UInt16), v9]), some (rowS SegS v11 lay1.1), some (rowS u32S v14 delive1.1)] [Fact.sl Qf v3 mem1.l, Fact.sl Qf v7 mem2.L, Fact.sl SegS v12 post1] [1, 3, 5, 6, 2, 7, 8, 4] [0, 1, 2, 3, 4, 5, 6, 9] [0, 1, 2] rfl ?_
     refine Qe (Qe (Qb (sMv rfl rfl rfl ?_)))
     refine Qa rfl (Qg rfl rfl rfl rfl rfl (QU (a := lay1.2.1) (b := (0 : Int)))) ?_
     refine sMv rfl rfl rfl ?_
     rcases bC (lay1.2.1 != (0 : Int)) with hg3 | hg3
     ·replace h := br_t hg3 h
      refine Qh rfl rfl (cgb hg3) rfl rfl ?_
      refine Qh rfl rfl (cgb hg3) rfl rfl ?_
      refine Qa rfl (Qw rfl rfl rfl (cgb hg3) rfl) ?_
      refine sMv rfl rfl rfl ?_
      refine Qh rfl rfl rfl rfl rfl ?_
      refine Qh rfl rfl rfl rfl rfl ?_
      refine Qh rfl rfl rfl rfl rfl ?_
      refine Qh rfl rfl rfl rfl rfl ?_
      refine Qh rfl rfl rfl rfl rfl ?_
      refine Qa rfl (Qw rfl rfl rfl rfl rfl) ?_
      refine nW [(1, some (.pointer (some ⟨b1, 0, none⟩))), (5, some (.pointer (some ⟨b3, 0, none⟩))), (6, some v11), (7, some v12), (8, some v14), (59, some (vB true))] [some (Qd b1 82 [v3, v4]), some (Qj u8S true v4 vs1 lay1.2.2 none), some (rowS u8S v9 (List.replicate (10 : Int).toNat (0 : UInt8))), some (Qd b3 37 [vU8 (0 : UInt8), vU8 (0 : UInt8), vU8 (0 : UInt8), vU8 (0 : UInt8), vU8 (0 : UInt8), vU8 (0 : UInt8), vU8 (0 : UInt8), vU8 (0 : UInt8), vU8 (0 : UInt8), vU8 (0 : UInt8), vU8 (0 : UInt8), vU8 (0 : UInt8), vI ((-1) : Int), vU16 (2048 : UInt16), v9]), some (rowS SegS v11 lay1.1), some (rowS u32S v14 delive1.1)] [Fact.sl Qf v3 mem1.l, Fact.sl SegS v12 post1] [1, 5, 6, 7, 8, 59] [0, 1, 4, 5, 6, 7] [0, 2] rfl ?_
      refine Ql rfl ?_
      refine Qe (Qb (sAs rfl rfl rfl ?_))
      refine nW [(0, some (vB false))] [] [] [0] [] [] rfl ?_
      obtain rfl := Option.some.inj h
      exact Qn rfl rfl (resA (vs := [vB false]) rfl ⟨rfl, trivial⟩) [] [] rfl rfl rfl ⟨rfl, rfl, rfl⟩
     ·replace h := br_f hg3 h
      refine Qi rfl rfl (cgb hg3) (Qk rfl rfl rfl rfl) ?_
      rintro _ rfl
      refine Qi rfl rfl (cgb hg3) (Qg rfl rfl rfl rfl rfl (QU (a := delive1.2.1) (b := (0 : Int)))) ?_
      rintro _ rfl
      refine Qa rfl (Qu rfl rfl rfl (cgb hg3) rfl) ?_
      refine sMv rfl rfl rfl ?_
      rcases bC (delive1.2.1 != (0 : Int)) with hg4 | hg4
      ·replace h := br_t hg4 h
       refine Qh rfl rfl (cgb hg4) rfl rfl ?_
       refine Qh rfl rfl (cgb hg4) rfl rfl ?_
       refine Qh rfl rfl (cgb hg4) rfl rfl ?_
       refine Qh rfl rfl (cgb hg4) rfl rfl ?_
       refine Qh rfl rfl (cgb hg4) rfl rfl ?_
       refine Qa rfl (Qw rfl rfl rfl (cgb hg4) rfl) ?_
       refine nW [(1, some (.pointer (some ⟨b1, 0, none⟩))), (5, some (.pointer (some ⟨b3, 0, none⟩))), (6, some v11), (7, some v12), (8, some v14), (59, some (vB true))] [some (Qd b1 82 [v3, v4]), some (Qj u8S true v4 vs1 lay1.2.2 none), some (rowS u8S v9 (List.replicate (10 : Int).toNat (0 : UInt8))), some (Qd b3 37 [vU8 (0 : UInt8), vU8 (0 : UInt8), vU8 (0 : UInt8), vU8 (0 : UInt8), vU8 (0 : UInt8), vU8 (0 : UInt8), vU8 (0 : UInt8), vU8 (0 : UInt8), vU8 (0 : UInt8), vU8 (0 : UInt8), vU8 (0 : UInt8), vU8 (0 : UInt8), vI ((-1) : Int), vU16 (2048 : UInt16), v9]), some (rowS SegS v11 lay1.1), some (rowS u32S v14 delive1.1)] [Fact.sl Qf v3 mem1.l, Fact.sl SegS v12 post1] [1, 5, 6, 7, 8, 59] [0, 1, 4, 5, 6, 7] [0, 2] rfl ?_
       refine Ql rfl ?_
       refine Qe (Qb (sAs rfl rfl rfl ?_))
       refine nW [(0, some (vB false))] [] [] [0] [] [] rfl ?_
       obtain rfl := Option.some.inj h
       exact Qn rfl rfl (resA (vs := [vB false]) rfl ⟨rfl, trivial⟩) [] [] rfl rfl rfl ⟨rfl, rfl, rfl⟩
      ·replace h := br_f hg4 h
       refine Qi rfl rfl (cgb hg4) (Qk rfl rfl rfl rfl) ?_
       rintro _ rfl
       refine Qi rfl rfl (cgb hg4) (Qk rfl rfl rfl rfl) ?_
       rintro _ rfl
       obtain ⟨image1, hx6, h⟩ := ob_e h
       refine Qi rfl rfl (cgb hg4) (QW [0, 1, 8, 9, 4, 5, 6, 7, 10] (w_ref_Mem_Image02 hx6) [2, 3] [1] rfl rfl rfl rfl rfl callee25 rfl rfl rfl rfl rfl) ?_
       rintro _ ⟨v15, _, _, ⟨_, rfl, rfl, rfl⟩, rfl⟩
       obtain ⟨write1, hx7, h⟩ := ob_e h
       refine Qi rfl rfl (cgb hg4) (Zj [8] [9, 10, 2, 3, 4, 5, 6, 7, 8] (w_gmem_Mem_Write hx7) [0, 1] rfl rfl rfl rfl rfl callee24 rfl rfl rfl rfl rfl rfl (QV (bor_shr 0 rfl) (QV (ZO 8 rfl rfl) Xe)) (by rintro _ _ _ ⟨rfl, rfl, rfl⟩; exact ⟨rfl, (ZL (ri_cells _ _ _) (ZL (ri_rows rfl _ _ _ _ _) Ye))⟩)) ?_
       rintro _ ⟨_, _, _, ⟨rfl, rfl, rfl⟩, rfl⟩
       refine Qi rfl rfl (cgb hg4) (Qg rfl rfl rfl rfl rfl (QU (a := write1.1) (b := (0 : Int)))) ?_
       rintro _ rfl
       refine Qa rfl (Qu rfl rfl rfl (cgb hg4) rfl) ?_
       refine nW [(1, some (.pointer (some ⟨b1, 0, none⟩))), (5, some (.pointer (some ⟨b3, 0, none⟩))), (6, some v11), (7, some v12), (8, some v14), (59, some (vB (write1.1 != (0 : Int))))] [some (Qd b1 82 [v3, v4]), some (Qj u8S true v4 vs1 write1.2 none), some (rowS u8S v9 (List.replicate (10 : Int).toNat (0 : UInt8))), some (Qd b3 37 [vU8 (0 : UInt8), vU8 (0 : UInt8), vU8 (0 : UInt8), vU8 (0 : UInt8), vU8 (0 : UInt8), vU8 (0 : UInt8), vU8 (0 : UInt8), vU8 (0 : UInt8), vU8 (0 : UInt8), vU8 (0 : UInt8), vU8 (0 : UInt8), vU8 (0 : UInt8), vI ((-1) : Int), vU16 (2048 : UInt16), v9]), some (rowS SegS v11 lay1.1), some (rowS u32S v14 delive1.1)] [Fact.sl Qf v3 mem1.l, Fact.sl SegS v12 post1] [1, 5, 6, 7, 8, 59] [0, 1, 4, 5, 6, 7] [0, 2] rfl ?_
       rcases bC (write1.1 != (0 : Int)) with hg5 | hg5
       ·replace h := br_t hg5 h
        refine Ql (cgb hg5) ?_
        refine Qe (Qb (sAs rfl rfl rfl ?_))
        refine nW [(0, some (vB false))] [] [] [0] [] [] rfl ?_
        obtain rfl := Option.some.inj h
        exact Qn rfl rfl (resA (vs := [vB false]) rfl ⟨rfl, trivial⟩) [] [] rfl rfl rfl ⟨rfl, rfl, rfl⟩
       ·replace h := br_f hg5 h
        refine Qm (cgb hg5) ?_
        refine Qr (Qe (Qb (sMv rfl rfl rfl ?_)))
        refine sMv rfl rfl rfl ?_
        refine Qq rfl (YV (Shape.slice SegS) (vs := [v12]) (xs := [post1]) rfl rfl rfl rfl rfl slF59 (isl_cons (is_sl (i := 1) rfl) isl_nil) rfl rfl rfl (rel_cons (rel_sl (i := 1) rfl) (rel_nil rfl))) fun v16 => ?_
        refine sMv rfl rfl rfl ?_
        obtain ⟨one1, hx8, h⟩ := ob_e h
        refine Qt rfl (Zj [6, 5] [7, 8, 2, 3, 4, 5, 6, 9] (w_netdrv_One hx8) [0, 1] rfl rfl rfl rfl rfl callee30 rfl rfl rfl rfl rfl rfl (QV (bor_shr 0 rfl) (QV (ZO 6 rfl rfl) (QV (ZO 5 rfl rfl) Xe))) (by rintro _ _ _ ⟨_, rfl, rfl, rfl⟩; exact ⟨rfl, (ZL (ri_cells _ _ _) (ZL (ri_rows rfl _ _ _ _ _) (ZL (ri_row (S := u8S) rfl _ _) Ye)))⟩)) ?_
        rintro _ ⟨_, _, _, ⟨v17, rfl, rfl, rfl⟩, rfl⟩
        refine sMv rfl rfl rfl ?_
        refine Qa rfl (Qs rfl rfl rfl rfl rfl) ?_
        refine Qa rfl (Qs rfl rfl rfl rfl rfl) ?_
        refine Qa rfl (Qs rfl rfl rfl rfl rfl) ?_
        refine Qq rfl (Zq rfl rfl rfl tyZ37) fun b4 => ?_
        refine Qa rfl (OpT_storeA1 (fun z0 => [vU8 one1.1.Dst.a0, vU8 one1.1.Dst.a1, vU8 one1.1.Dst.a2, vU8 one1.1.Dst.a3, vU8 one1.1.Dst.a4, vU8 one1.1.Dst.a5, vU8 one1.1.Src.a0, vU8 one1.1.Src.a1, vU8 one1.1.Src.a2, vU8 one1.1.Src.a3, vU8 one1.1.Src.a4, vU8 one1.1.Src.a5, vI one1.1.Vlan, vU16 one1.1.Type_, z0]) (cs' := [vU8 one1.1.Dst.a0, vU8 one1.1.Dst.a1, vU8 one1.1.Dst.a2, vU8 one1.1.Dst.a3, vU8 one1.1.Dst.a4, vU8 one1.1.Dst.a5, vU8 one1.1.Src.a0, vU8 one1.1.Src.a1, vU8 one1.1.Src.a2, vU8 one1.1.Src.a3, vU8 one1.1.Src.a4, vU8 one1.1.Src.a5, vI one1.1.Vlan, vU16 one1.1.Type_, v17]) rfl rfl rfl rfl Xo (i := 8) rfl (is_row (i := 7) rfl) (fun _ _ _ => rfl) rfl rfl rfl) ?_
        refine sAs rfl rfl rfl ?_
        refine sAs rfl rfl rfl ?_
        refine nW [(5, some (.pointer (some ⟨b3, 0, none⟩))), (6, some v11), (9, some (.pointer (some ⟨b4, 0, none⟩))), (10, some (vI one1.2.1)), (2, some (vI one1.2.2))] [some (rowS u8S v9 (List.replicate (10 : Int).toNat (0 : UInt8))), some (Qd b3 37 [vU8 (0 : UInt8), vU8 (0 : UInt8), vU8 (0 : UInt8), vU8 (0 : UInt8), vU8 (0 : UInt8), vU8 (0 : UInt8), vU8 (0 : UInt8), vU8 (0 : UInt8), vU8 (0 : UInt8), vU8 (0 : UInt8), vU8 (0 : UInt8), vU8 (0 : UInt8), vI ((-1) : Int), vU16 (2048 : UInt16), v9]), some (rowS SegS v11 lay1.1), some (rowS u8S v17 one1.1.Data), some (Qd b4 37 [vU8 one1.1.Dst.a0, vU8 one1.1.Dst.a1, vU8 one1.1.Dst.a2, vU8 one1.1.Dst.a3, vU8 one1.1.Dst.a4, vU8 one1.1.Dst.a5, vU8 one1.1.Src.a0, vU8 one1.1.Src.a1, vU8 one1.1.Src.a2, vU8 one1.1.Src.a3, vU8 one1.1.Src.a4, vU8 one1.1.Src.a5, vI one1.1.Vlan, vU16 one1.1.Type_, v17])] [] [5, 6, 9, 10, 2] [2, 3, 4, 7, 8] [] rfl ?_
        refine Qe (Qb (sMv rfl rfl rfl ?_))
        refine Qa rfl (Qg rfl rfl rfl rfl rfl (Xh (a := one1.2.2) (b := (0 : Int)))) ?_
        refine sMv rfl rfl rfl ?_
        rcases bC (one1.2.2 == (0 : Int)) with hg6 | hg6
        ·replace h := br_t hg6 h
         refine Qi rfl rfl (cgb hg6) (Qk rfl rfl rfl rfl) ?_
         rintro _ rfl
         refine Qi rfl rfl (cgb hg6) (Qg rfl rfl rfl rfl rfl (Xh (a := one1.2.1) (b := (1 : Int)))) ?_
         rintro _ rfl
         refine Qa rfl (Qw rfl rfl rfl (cgb hg6) rfl) ?_
         refine sMv rfl rfl rfl ?_
         rcases bC (one1.2.1 == (1 : Int)) with hg7 | hg7
         ·replace h := br_t hg7 h
          refine Qi rfl rfl (cgb hg7) (Zx (vs := [vU8 (0 : UInt8), vU8 (0 : UInt8), vU8 (0 : UInt8), vU8 (0 : UInt8), vU8 (0 : UInt8), vU8 (0 : UInt8), vU8 (0 : UInt8), vU8 (0 : UInt8), vU8 (0 : UInt8), vU8 (0 : UInt8), vU8 (0 : UInt8), vU8 (0 : UInt8), vI ((-1) : Int), vU16 (2048 : UInt16), v9]) rfl rfl rfl rfl Xo (i := 1) rfl rfl rfl) ?_
          rintro _ rfl
          refine Qi rfl rfl (cgb hg7) (Zx (vs := [vU8 one1.1.Dst.a0, vU8 one1.1.Dst.a1, vU8 one1.1.Dst.a2, vU8 one1.1.Dst.a3, vU8 one1.1.Dst.a4, vU8 one1.1.Dst.a5, vU8 one1.1.Src.a0, vU8 one1.1.Src.a1, vU8 one1.1.Src.a2, vU8 one1.1.Src.a3, vU8 one1.1.Src.a4, vU8 one1.1.Src.a5, vI one1.1.Vlan, vU16 one1.1.Type_, v17]) rfl rfl rfl rfl Xo (i := 4) rfl rfl rfl) ?_
          rintro _ rfl
          obtain ⟨frame1, hx9, h⟩ := ob_e h
          refine Qi rfl rfl (cgb hg7) (Zj [0, 3] [0, 1, 2, 3, 4] (w_kit_Frame hx9) [] rfl rfl rfl rfl rfl callee19 rfl rfl rfl rfl rfl rfl (QV (ZO 0 rfl rfl) (QV (ZO 3 rfl rfl) Xe)) (by rintro _ _ _ ⟨rfl, rfl, rfl⟩; exact ⟨rfl, Ye⟩)) ?_
          rintro _ ⟨_, _, _, ⟨rfl, rfl, rfl⟩, rfl⟩
          refine Qa rfl (Qw rfl rfl rfl (cgb hg7) rfl) ?_
          refine sMv rfl rfl rfl ?_
          rcases bC (frame1) with hg8 | hg8
          ·replace h := br_t hg8 h
           refine Qi rfl rfl (cgb hg8) (Qk rfl rfl rfl rfl) ?_
           rintro _ rfl
           refine Qi rfl rfl (cgb hg8) (Zd (v := .agg #[vU64 (100 : UInt64), vU32 (12 : UInt32), vB false]) rfl rfl rfl rfl (bldV (by kernel_rfl))) ?_
           rintro _ rfl
           refine Qi rfl rfl (cgb hg8) (Zd (v := .agg #[vU64 (112 : UInt64), vU32 (24 : UInt32), vB false]) rfl rfl rfl rfl (bldV (by kernel_rfl))) ?_
           rintro _ rfl
           refine Qi rfl rfl (cgb hg8) (QF (S := SegS) (xs := [(Seg.mk (100 : UInt64) (12 : UInt32) false), (Seg.mk (112 : UInt64) (24 : UInt32) false)]) (css := [[vU64 (100 : UInt64), vU32 (12 : UInt32), vB false], [vU64 (112 : UInt64), vU32 (24 : UInt32), vB false]]) (cs := [vU64 (100 : UInt64), vU32 (12 : UInt32), vB false, vU64 (112 : UInt64), vU32 (24 : UInt32), vB false]) (e := 29) rfl rfl rfl rfl (bldF XS (by decide) (by kernel_rfl)) rfl rfl rfl rfl (Ze (S := SegS) (xs := [(Seg.mk (100 : UInt64) (12 : UInt32) false), (Seg.mk (112 : UInt64) (24 : UInt32) false)]) (css := [[vU64 (100 : UInt64), vU32 (12 : UInt32), vB false], [vU64 (112 : UInt64), vU32 (24 : UInt32), vB false]]) rfl rfl)) ?_
           rintro _ ⟨v18, rfl⟩
           obtain ⟨samese1, hx10, h⟩ := ob_e h
           refine Qi rfl rfl (cgb hg8) (Zj [2, 5] [0, 1, 2, 3, 4, 5] (w_kit_SameSegs hx10) [] rfl rfl rfl rfl rfl callee31 rfl rfl rfl rfl rfl rfl (QV (ZO 2 rfl rfl) (QV (ZO 5 rfl rfl) Xe)) (by rintro _ _ _ ⟨rfl, rfl, rfl⟩; exact ⟨rfl, Ye⟩)) ?_
           rintro _ ⟨_, _, _, ⟨rfl, rfl, rfl⟩, rfl⟩
           refine Qa rfl (Qw rfl rfl rfl (cgb hg8) rfl) ?_
           refine sAs rfl rfl rfl ?_
           refine nW [(0, some (vB samese1))] [] [] [0] [] [] rfl ?_
           obtain rfl := Option.some.inj h
           exact Qn rfl rfl (resA (vs := [vB samese1]) rfl ⟨rfl, trivial⟩) [] [] rfl rfl rfl ⟨rfl, rfl, rfl⟩
          ·replace h := br_f hg8 h
           refine Qh rfl rfl (cgb hg8) rfl rfl ?_
           refine Qh rfl rfl (cgb hg8) rfl rfl ?_
           refine Qh rfl rfl (cgb hg8) rfl rfl ?_
           refine Qh rfl rfl (cgb hg8) rfl rfl ?_
           refine Qh rfl rfl (cgb hg8) rfl rfl ?_
           refine Qa rfl (Qu rfl rfl rfl (cgb hg8) rfl) ?_
           refine sAs rfl rfl rfl ?_
           refine nW [(0, some (vB false))] [] [] [0] [] [] rfl ?_
           obtain rfl := Option.some.inj h
           exact Qn rfl rfl (resA (vs := [vB false]) rfl ⟨rfl, trivial⟩) [] [] rfl rfl rfl ⟨rfl, rfl, rfl⟩
         ·replace h := br_f hg7 h
          refine Qh rfl rfl (cgb hg7) rfl rfl ?_
          refine Qh rfl rfl (cgb hg7) rfl rfl ?_
          refine Qh rfl rfl (cgb hg7) rfl rfl ?_
          refine Qa rfl (Qu rfl rfl rfl (cgb hg7) rfl) ?_
          refine sMv rfl rfl rfl ?_
          refine Qh rfl rfl rfl rfl rfl ?_
          refine Qh rfl rfl rfl rfl rfl ?_
          refine Qh rfl rfl rfl rfl rfl ?_
          refine Qh rfl rfl rfl rfl rfl ?_
          refine Qh rfl rfl rfl rfl rfl ?_
          refine Qa rfl (Qu rfl rfl rfl rfl rfl) ?_
          refine sAs rfl rfl rfl ?_
          refine nW [(0, some (vB false))] [] [] [0] [] [] rfl ?_
          obtain rfl := Option.some.inj h
          exact Qn rfl rfl (resA (vs := [vB false]) rfl ⟨rfl, trivial⟩) [] [] rfl rfl rfl ⟨rfl, rfl, rfl⟩
        ·replace h := br_f hg6 h
         refine Qh rfl rfl (cgb hg6) rfl rfl ?_
         refine Qh rfl rfl (cgb hg6) rfl rfl ?_
         refine Qa rfl (Qu rfl rfl rfl (cgb hg6) rfl) ?_
         refine sMv rfl rfl rfl ?_
         refine Qh rfl rfl rfl rfl rfl ?_
         refine Qh rfl rfl rfl rfl rfl ?_
         refine Qh rfl rfl rfl rfl rfl ?_
         refine Qa rfl (Qu rfl rfl rfl rfl rfl) ?_
         refine sMv rfl rfl rfl ?_
         refine Qh rfl rfl rfl rfl rfl ?_
         refine Qh rfl rfl rfl rfl rfl ?_
         refine Qh rfl rfl rfl rfl rfl ?_
         refine Qh rfl rfl rfl rfl rfl ?_
         refine Qh rfl rfl rfl rfl rfl ?_
         refine Qa rfl (Qu rfl rfl rfl rfl rfl) ?_
         refine sAs rfl rfl rfl ?_
         refine nW [(0, some (vB false))] [] [] [0] [] [] rfl ?_
         obtain rfl := Option.some.inj h
         exact Qn rfl rfl (resA (vs := [vB false]) rfl ⟨rfl, trivial⟩) [] [] rfl rfl rfl ⟨rfl, rfl, rfl⟩

end Go.Proofs.Ytgcbcnpbnonnjaa
