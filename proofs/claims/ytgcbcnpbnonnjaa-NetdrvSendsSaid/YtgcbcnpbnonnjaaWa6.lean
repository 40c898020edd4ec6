/- The functions do what the plain words say: each is walked once. No statement of the seat is proved here; no condition. -/
import Derived.Test.YtgcbcnpbnonnjaaWa5
namespace Go.Proofs.Ytgcbcnpbnonnjaa
attribute [local irreducible] sub
set_option maxRecDepth 100000 in
set_option maxHeartbeats 4000000 in
theorem w_kit_Own {b : List UInt8} {vb1 : Value} {r : (List UInt8)} (h : kit_Own b = some r) :
  Ctr Try.prog 20 #[vb1] [] [Fact.sl u8S vb1 b]
   (fun rv own shr => ∃ (w1 : Value), rv = w1 ∧ own = [(rowS u8S w1 r)] ∧ shr = []) := by
 unfold kit_Own at h
 refine Ctr.mk (args := [vb1]) Try.func20 rfl rfl (fun R0 w0 B => ?_)
 refine Qe (Qb (sAs rfl rfl rfl ?_))
 refine nW [(0, some vb1)] [] [Fact.sl u8S vb1 b] [0] [] [0] rfl ?_
 refine Qe (Qb (Qq rfl (QH (S := u8S) (xs := ([] : List UInt8)) (css := []) (cs := []) (e := 5) rfl rfl rfl rfl (bldF Zf (by decide) (by kernel_rfl)) rfl rfl rfl rfl (Zd (S := u8S) (xs := ([] : List UInt8)) (css := []) rfl rfl)) fun v1 => ?_))
 refine sMv rfl rfl rfl ?_
 obtain ⟨hc1, h⟩ := Zg h
 refine Qq rfl (Xk rfl rfl rfl rfl rfl Zf (i := 0) (j := 0) rfl rfl hc1) fun v2 => ?_
 refine sAs rfl rfl rfl ?_
 refine nW [(2, some v2)] [some (rowS u8S v2 b)] [] [2] [0] [] rfl ?_
 obtain rfl := Option.some.inj h
 exact Qo rfl rfl (resA (vs := [v2]) rfl ⟨rfl, trivial⟩) [0] [] rfl rfl rfl ⟨v2, rfl, rfl, rfl⟩

set_option maxRecDepth 100000 in
set_option maxHeartbeats 4000000 in
theorem w_law26zmemory  {r : (List Region)} (h : law26zmemory = some r) :
  Ctr Try.prog 12 #[] [] []
   (fun rv own shr => ∃ (w1 : Value), rv = w1 ∧ own = [(rowS Qf w1 r)] ∧ shr = []) := by
 unfold law26zmemory at h
 refine Ctr.mk (args := []) Try.func12 rfl rfl (fun R0 w0 B => ?_)
 refine Qe (Qb (sAs rfl rfl rfl ?_))
 refine nW [] [] [] [] [] [] rfl ?_
 refine Qe (Qb (Qa rfl (QT (v := .agg #[vU64 (0 : UInt64), vU64 (32768 : UInt64)]) rfl rfl rfl rfl (bldV (by kernel_rfl))) ?_))
 refine Qq rfl (QH (S := Qf) (xs := [(Region.mk (0 : UInt64) (32768 : UInt64))]) (css := [[vU64 (0 : UInt64), vU64 (32768 : UInt64)]]) (cs := [vU64 (0 : UInt64), vU64 (32768 : UInt64)]) (e := 75) rfl rfl rfl rfl (bldF slF42 (by decide) (by kernel_rfl)) rfl rfl rfl rfl (Zd (S := Qf) (xs := [(Region.mk (0 : UInt64) (32768 : UInt64))]) (css := [[vU64 (0 : UInt64), vU64 (32768 : UInt64)]]) rfl rfl)) fun v1 => ?_
 refine sAs rfl rfl rfl ?_
 refine nW [(0, some v1)] [some (rowS Qf v1 [(Region.mk (0 : UInt64) (32768 : UInt64))])] [] [0] [0] [] rfl ?_
 obtain rfl := Option.some.inj h
 exact Qo rfl rfl (resA (vs := [v1]) rfl ⟨rfl, trivial⟩) [0] [] rfl rfl rfl ⟨v1, rfl, rfl, rfl⟩

set_option maxRecDepth 100000 in
set_option maxHeartbeats 4000000 in
theorem w_kit_Pick {np0 : Int} {m : Int} {r : Int} (h : kit_Pick np0 m = some r) :
  Ctr Try.prog 14 #[vI np0, vI m] [] []
   (fun rv own shr => rv = vI r ∧ own = [] ∧ shr = []) := by
 unfold kit_Pick at h
 refine Ctr.mk (args := [vI np0, vI m]) Try.func14 rfl rfl (fun R0 w0 B => ?_)
 refine Qe (Qb (sAs rfl rfl rfl ?_))
 refine nW [(0, some (vI np0)), (1, some (vI m))] [] [] [0, 1] [] [] rfl ?_
 refine Qe (Qe (Qb (sMv rfl rfl rfl ?_)))
 refine Qa rfl (Qg rfl rfl rfl rfl rfl (QJ (a := m) (b := (1 : Int)))) ?_
 refine nW [(0, some (vI np0)), (1, some (vI m)), (6, some (vB (decide (m < (1 : Int)))))] [] [] [0, 1, 6] [] [] rfl ?_
 rcases bC (decide (m < (1 : Int))) with hg1 | hg1
 ·replace h := br_t hg1 h
  refine Qn (cgb hg1) ?_
  refine Qe (Qb (sAs rfl rfl rfl ?_))
  refine nW [(4, some (vI (0 : Int)))] [] [] [4] [] [] rfl ?_
  obtain rfl := Option.some.inj h
  exact Qo rfl rfl (resA (vs := [vI (0 : Int)]) rfl ⟨rfl, trivial⟩) [] [] rfl rfl rfl ⟨rfl, rfl, rfl⟩
 ·replace h := br_f hg1 h
  refine Ql (cgb hg1) ?_
  refine Qr (Qe (Qb (sMv rfl rfl rfl ?_)))
  refine sMv rfl rfl rfl ?_
  obtain ⟨hc1, h⟩ := Zg h
  refine Qa rfl (Qg rfl rfl rfl rfl rfl (bin_rem_i (a := np0) (b := m) (not_t hc1))) ?_
  refine sAs rfl rfl rfl ?_
  refine nW [(0, some (vI (remi np0 m))), (1, some (vI m))] [] [] [0, 1] [] [] rfl ?_
  refine Qe (Qe (Qb (sMv rfl rfl rfl ?_)))
  refine Qa rfl (Qg rfl rfl rfl rfl rfl (QJ (a := remi np0 m) (b := (0 : Int)))) ?_
  refine nW [(0, some (vI (remi np0 m))), (1, some (vI m)), (11, some (vB (decide ((remi np0 m) < (0 : Int)))))] [] [] [0, 1, 11] [] [] rfl ?_
  rcases bC (decide ((remi np0 m) < (0 : Int))) with hg2 | hg2
  ·replace h := br_t hg2 h
   refine Qn (cgb hg2) ?_
   refine Qb (sMv rfl rfl rfl ?_)
   refine sMv rfl rfl rfl ?_
   refine Qa rfl (Qg rfl rfl rfl rfl rfl (Qx (a := remi np0 m) (b := m))) ?_
   refine sAs rfl rfl rfl ?_
   refine nW [(0, some (vI (wi ((remi np0 m) + m))))] [] [] [0] [] [] rfl ?_
   refine Qe (Qb (sMv rfl rfl rfl ?_))
   refine sAs rfl rfl rfl ?_
   refine nW [(4, some (vI (wi ((remi np0 m) + m))))] [] [] [4] [] [] rfl ?_
   obtain rfl := Option.some.inj h
   exact Qo rfl rfl (resA (vs := [vI (wi ((remi np0 m) + m))]) rfl ⟨rfl, trivial⟩) [] [] rfl rfl rfl ⟨rfl, rfl, rfl⟩
  ·replace h := br_f hg2 h
   refine Ql (cgb hg2) ?_
   refine Qr (Qe (Qb (sMv rfl rfl rfl ?_)))
   refine sAs rfl rfl rfl ?_
   refine nW [(4, some (vI (remi np0 m)))] [] [] [4] [] [] rfl ?_
   obtain rfl := Option.some.inj h
   exact Qo rfl rfl (resA (vs := [vI (remi np0 m)]) rfl ⟨rfl, trivial⟩) [] [] rfl rfl rfl ⟨rfl, rfl, rfl⟩

set_option maxRecDepth 100000 in
set_option maxHeartbeats 4000000 in
theorem w_gmem_Mem_Image {m : gmem_Mem} {b_m : Nat} {vm1 : Value} {vm2 : Value} {vsm1 : List Value} {r : (List UInt8)} (h : XG m = some r) :
  Ctr Try.prog 17 #[.pointer (some ⟨b_m, 0, none⟩)] [(Qd b_m 82 [vm1, vm2]), (Qj u8S true vm2 vsm1 m.b none)] [Fact.sl Qf vm1 m.l]
   (fun rv own shr => ∃ (w1 : Value), rv = w1 ∧ own = [(Qd b_m 82 [vm1, vm2]), (Qj u8S true vm2 vsm1 m.b none), (rowS u8S w1 r)] ∧ shr = []) := by
 unfold XG at h
 refine Ctr.mk (args := [.pointer (some ⟨b_m, 0, none⟩)]) Try.func17 rfl rfl (fun R0 w0 B => ?_)
 refine Qe (Qb (sAs rfl rfl rfl ?_))
 refine nW [(0, some (.pointer (some ⟨b_m, 0, none⟩)))] [some (Qd b_m 82 [vm1, vm2]), some (Qj u8S true vm2 vsm1 m.b none)] [Fact.sl Qf vm1 m.l] [0] [0, 1] [0] rfl ?_
 refine Qe (Qe (Qb (sMv rfl rfl rfl ?_)))
 obtain ⟨made1, hx1, h⟩ := ob_e h
 refine Qt rfl (QS [2, 3] (YY hx1) [0, 1] [0] rfl rfl rfl rfl rfl callee39 rfl rfl rfl rfl rfl) ?_
 rintro _ ⟨_, _, _, ⟨rfl, rfl, rfl⟩, rfl⟩
 refine Qa rfl (Kn rfl rfl rfl rfl) ?_
 refine nW [(0, some (.pointer (some ⟨b_m, 0, none⟩))), (5, some (vB (!made1)))] [some (Qd b_m 82 [vm1, vm2]), some (Qj u8S true vm2 vsm1 m.b none)] [Fact.sl Qf vm1 m.l] [0, 5] [0, 1] [0] rfl ?_
 refine Ql (congrArg (fun b => some (Value.bool b)) (congrArg (!·) (Option.some.inj (show some true = some made1 from hx1)).symm)) ?_
 refine Qr (Qe (Qb (sMv rfl rfl rfl ?_)))
 refine Qa rfl (QO rfl rfl rfl rfl) ?_
 refine Qa rfl (Qm rfl rfl rfl rfl fldF82x1) ?_
 refine Qa rfl (Qp rfl rfl rfl rfl tyF80 (i := 0) rfl rfl) ?_
 obtain ⟨concat1, hx2, h⟩ := ob_e h
 refine Qt rfl (QX [1] [0, 1, 2] (XJ hx2) [] rfl rfl rfl rfl rfl callee40 rfl rfl rfl rfl rfl rfl (QM (bor_rows 1 rfl rfl) ZB) (by rintro _ _ _ ⟨_, rfl, rfl, rfl⟩; exact ⟨rfl, (Zj (YK (S := u8S) rfl _ _) Xa)⟩)) ?_
 rintro _ ⟨v1, _, _, ⟨_, rfl, rfl, rfl⟩, rfl⟩
 refine sAs rfl rfl rfl ?_
 refine nW [(2, some v1)] [some (Qd b_m 82 [vm1, vm2]), some (Qj u8S true vm2 vsm1 m.b none), some (rowS u8S v1 concat1)] [Fact.sl Qf vm1 m.l] [2] [0, 1, 2] [0] rfl ?_
 obtain rfl := Option.some.inj h
 exact Qo rfl rfl (resA (vs := [v1]) rfl ⟨rfl, trivial⟩) [0, 1, 2] [] rfl rfl rfl ⟨v1, rfl, rfl, rfl⟩

end Go.Proofs.Ytgcbcnpbnonnjaa
