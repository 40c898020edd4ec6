/- The functions do what the plain words say: each is walked once. No statement of the seat is proved here; no condition. -/
import Derived.Test.YtlofegfaphijpaaWa1
namespace Go.Proofs.Ytlofegfaphijpaa
attribute [local irreducible] sub
set_option maxRecDepth 100000 in
set_option maxHeartbeats 4000000 in
theorem ZL {m : gmem_Mem} {atp1 : UInt64} {arg2 : List UInt8} {b_m : Nat} {vm1 : Value} {vm2 : Value} {vsm1 : List Value} {varg21 : Value} {r : (Int × (List (List UInt8)))} (h : Zq m atp1 arg2 = some r) :
  Ctr Try.prog 11 #[.pointer (some ⟨b_m, 0, none⟩), vU64 atp1, varg21] [(Qm b_m 113 [vm1, vm2]), (QV u8S true vm2 vsm1 m.b none)] [Fact.sl Qz vm1 m.l, Fact.sl u8S varg21 arg2]
   (fun rv own shr => rv = vI r.1 ∧ own = [(Qm b_m 113 [vm1, vm2]), (QV u8S true vm2 vsm1 r.2 none)] ∧ shr = []) := by
 unfold Zq at h
 refine Ctr.mk (args := [.pointer (some ⟨b_m, 0, none⟩), vU64 atp1, varg21]) Try.func11 rfl rfl (fun R0 w0 B => ?_)
 refine Qe (Qc (sAs rfl rfl rfl ?_))
 refine Qd (tZ [0, 1, 2] [0, 1] [0, 1] rfl rfl rfl rfl ?_)
 refine Qe (Qe (Qc (sMv rfl rfl rfl ?_)))
 obtain ⟨made1, hx1, h⟩ := ob_e h
 refine Qs rfl (QJ [2, 3] (w_gmem_Mem_made hx1) [0, 1] [0] rfl rfl rfl rfl rfl callee37 rfl rfl rfl rfl rfl) ?_
 rintro _ ⟨_, _, _, ⟨rfl, rfl, rfl⟩, rfl⟩
 refine Qa rfl (XO rfl rfl rfl rfl) ?_
 refine Qd (tZ [0, 1, 2, 10] [0, 1] [0, 1] rfl rfl rfl rfl ?_)
 refine Qp (congrArg (fun b => some (Value.bool b)) (congrArg (!·) (Option.some.inj (show some true = some made1 from hx1)).symm)) ?_
 refine Qt (Qe (Qe (Qc (sMv rfl rfl rfl ?_))))
 refine Qa rfl (QT rfl rfl rfl rfl Try.underlying39 (i := 1) rfl) ?_
 refine Qa rfl (Qf rfl rfl rfl rfl rfl (ZG (a := len arg2) (b := (0 : Int)))) ?_
 refine Qd (tZ [0, 1, 2, 13] [0, 1] [0, 1] rfl rfl rfl rfl ?_)
 rcases bC ((len arg2) == (0 : Int)) with hg1 | hg1
 ·replace h := br_t hg1 h
  refine Ql (cgb hg1) ?_
  refine Qe (Qc (sAs rfl rfl rfl ?_))
  refine Qd (tZ [6] [0, 1] [0] rfl rfl rfl rfl ?_)
  obtain rfl := Option.some.inj h
  exact Qn rfl rfl (resA (vs := [vI (0 : Int)]) rfl ⟨rfl, trivial⟩) [0, 1] [] rfl rfl rfl ⟨rfl, rfl, rfl⟩
 ·replace h := br_f hg1 h
  refine Qp (cgb hg1) ?_
  refine Qt (Qe (Qc (sMv rfl rfl rfl ?_)))
  refine sMv rfl rfl rfl ?_
  refine sMv rfl rfl rfl ?_
  refine Qa rfl (QT rfl rfl rfl rfl Try.underlying39 (i := 1) rfl) ?_
  refine Qa rfl (QX rfl rfl rfl rfl (Xw (n := len arg2) Try.underlying3 Try.underlying27)) ?_
  obtain ⟨bytes1, hx2, h⟩ := ob_e h
  refine Qs rfl (QJ [2, 3] (w_gmem_Mem_bytes hx2) [0, 1] [0] rfl rfl rfl rfl rfl callee38 rfl rfl rfl rfl rfl) ?_
  rintro _ ⟨_, _, _, ⟨rfl, rfl, rfl⟩, rfl⟩
  refine sAs rfl rfl rfl ?_
  refine Qd (tZ [2, 7] [0, 1] [0, 1] rfl rfl rfl rfl ?_)
  rcases onO_cases h with ⟨ho1, h⟩ | ⟨w1, ho1, h⟩
  ·refine Tk_eqv (x := winV 1 vsm1 bytes1) (y := .slice none 0 0) (by rw [ho1]; rfl) (fun z => ⟨[(2, some varg21), (7, some z)], [some (Qm b_m 113 [vm1, vm2]), some (QV u8S true vm2 vsm1 m.b none)], [Fact.sl Qz vm1 m.l, Fact.sl u8S varg21 arg2]⟩) ?_
   refine Qe (Qe (Qc (sMv rfl rfl rfl ?_)))
   refine Qa rfl (OpT_eqNilN rfl rfl rfl (.inl rfl) rfl rfl Try.underlying39) ?_
   refine Qd (tZ [2, 7, 21] [0, 1] [0, 1] rfl rfl rfl rfl ?_)
   refine Ql rfl ?_
   refine Qe (Qc (sAs rfl rfl rfl ?_))
   refine Qd (tZ [6] [0, 1] [0] rfl rfl rfl rfl ?_)
   obtain rfl := Option.some.inj h
   exact Qn rfl rfl (resA (vs := [vI (5 : Int)]) rfl ⟨rfl, trivial⟩) [0, 1] [] rfl rfl rfl ⟨rfl, rfl, rfl⟩
  ·refine Tk_eqv (x := winV 1 vsm1 bytes1) (y := subV (vsAt vsm1 (Int.toNat w1.1)) 1 (Int.toNat w1.2.1) (Int.toNat w1.2.2)) (by rw [ho1]; rfl) (fun z => ⟨[(2, some varg21), (7, some z)], [some (Qm b_m 113 [vm1, vm2]), some (QV u8S true vm2 vsm1 m.b none)], [Fact.sl Qz vm1 m.l, Fact.sl u8S varg21 arg2]⟩) ?_
   obtain ⟨row1, hx3, h⟩ := ob_e h
   refine Tk_vs (vs_focus (i := 1) (j := w1.1) rfl hx3) ?_
   obtain ⟨hc1, h⟩ := ZK h
   refine Qe (Qe (Qc (sMv rfl rfl rfl ?_)))
   obtain ⟨hc2, h⟩ := ZK h
   refine Qa rfl (OpT_eqSub (S := u8S) (l := w1.2.1) (m := w1.2.2) rfl rfl rfl (.inl rfl) rfl rfl Try.underlying39 (i := 2) rfl hc1 hc2) ?_
   refine Qd (tZ [2, 7, 21] [0, 1, 2] [0, 1] rfl rfl rfl rfl ?_)
   refine Qp rfl ?_
   refine Qt (Qe (Qc (sMv rfl rfl rfl ?_)))
   refine sMv rfl rfl rfl ?_
   refine Qa rfl (OpT_copyS (S := u8S) (l := w1.2.1) (m := w1.2.2) rfl rfl rfl rfl rfl rfl slF39 (i := 2) (j := 1) rfl rfl hc1) ?_
   refine Qd (tZ [] [0, 1, 2] [0] rfl rfl rfl rfl ?_)
   refine Tk_vs (vs_unfocus (i := 1) (q := 2) rfl rfl rfl) ?_
   refine Qe (Qc (sAs rfl rfl rfl ?_))
   refine Qd (tZ [6] [0, 1] [0] rfl rfl rfl rfl ?_)
   obtain rfl := Option.some.inj h
   exact Qn rfl rfl (resA (vs := [vI (0 : Int)]) rfl ⟨rfl, trivial⟩) [0, 1] [] rfl rfl rfl ⟨rfl, rfl, rfl⟩

set_option maxRecDepth 100000 in
set_option maxHeartbeats 4000000 in
theorem w_slices_Clone_bytebyte {sp0 : List UInt8} {vsp01 : Value} {r : (List UInt8)} (h : Xj sp0 = some r) :
  Ctr Try.prog 107 #[vsp01] [] [Fact.sl u8S vsp01 sp0]
   (fun rv own shr => ∃ (w1 : Value), rv = w1 ∧ own = [(rowS u8S w1 r)] ∧ shr = []) := by
 unfold Xj at h
 refine Ctr.mk (args := [vsp01]) Try.func107 rfl rfl (fun R0 w0 B => ?_)
 refine Qe (Qc (sAs rfl rfl rfl ?_))
 refine Qd (tZ [0] [] [0] rfl rfl rfl rfl ?_)
 refine Qe (Qe (Qc (sMv rfl rfl rfl ?_)))
 refine Qs rfl (OpT_eqNil rfl rfl rfl (.inl rfl) rfl rfl Try.underlying39 (i := 0) rfl) ?_
 rintro _ ⟨q1, hq1, rfl⟩
 refine Qd (tZ [0, 4] [] [0] rfl rfl rfl rfl ?_)
 rcases bC q1 with hg1 | hg1
 ·obtain rfl := hq1 hg1
  replace h : some ([] : List UInt8) = some r := h
  refine Ql (cgb hg1) ?_
  refine Qe (Qc (sAs rfl rfl rfl ?_))
  refine Qd (tZ [2] [] [] rfl rfl rfl rfl ?_)
  refine Zr u8S ?_
  obtain rfl := Option.some.inj h
  exact Qn rfl rfl (resA (vs := [.slice none 0 0]) rfl ⟨rfl, trivial⟩) [0] [] rfl rfl rfl ⟨(.slice none 0 0), rfl, rfl, rfl⟩
 ·refine Qp (cgb hg1) ?_
  refine Qt (Qe (Qc (Qu rfl (QK (S := u8S) (xs := ([] : List UInt8)) (css := []) (cs := []) (e := 5) rfl rfl rfl rfl (bldF slF39 (by decide) (by kernel_rfl)) rfl rfl rfl rfl (Zd (S := u8S) (xs := ([] : List UInt8)) (css := []) rfl rfl)) fun v1 => ?_)))
  refine sMv rfl rfl rfl ?_
  obtain ⟨hc1, h⟩ := ZK h
  refine Qu rfl (OpT_append rfl rfl rfl rfl rfl slF39 (i := 0) (j := 0) rfl rfl hc1) fun v2 => ?_
  refine sAs rfl rfl rfl ?_
  refine Qd (tZ [2] [0] [] rfl rfl rfl rfl ?_)
  obtain rfl := Option.some.inj h
  exact Qn rfl rfl (resA (vs := [v2]) rfl ⟨rfl, trivial⟩) [0] [] rfl rfl rfl ⟨v2, rfl, rfl, rfl⟩

set_option maxRecDepth 100000 in
set_option maxHeartbeats 4000000 in
theorem Yg {m : gmem_Mem} {atp1 : UInt64} {np2 : Int} {b_m : Nat} {vm1 : Value} {vm2 : Value} {vsm1 : List Value} {r : ((List UInt8) × Int)} (h : ZV m atp1 np2 = some r) :
  Ctr Try.prog 82 #[.pointer (some ⟨b_m, 0, none⟩), vU64 atp1, vI np2] [(Qm b_m 113 [vm1, vm2]), (QV u8S true vm2 vsm1 m.b none)] [Fact.sl Qz vm1 m.l]
   (fun rv own shr => ∃ (w1 : Value), rv = .tuple #[w1, vI r.2] ∧ own = [(Qm b_m 113 [vm1, vm2]), (QV u8S true vm2 vsm1 m.b none), (rowS u8S w1 r.1)] ∧ shr = []) := by
 unfold ZV at h
 refine Ctr.mk (args := [.pointer (some ⟨b_m, 0, none⟩), vU64 atp1, vI np2]) Try.func82 rfl rfl (fun R0 w0 B => ?_)
 refine Qe (Qc (sAs rfl rfl rfl ?_))
 refine sAs rfl rfl rfl ?_
 refine Qd (tZ [0, 1, 2] [0, 1] [0] rfl rfl rfl rfl ?_)
 refine Qe (Qe (Qc (sMv rfl rfl rfl ?_)))
 obtain ⟨made1, hx1, h⟩ := ob_e h
 refine Qs rfl (QJ [2, 3] (w_gmem_Mem_made hx1) [0, 1] [0] rfl rfl rfl rfl rfl callee37 rfl rfl rfl rfl rfl) ?_
 rintro _ ⟨_, _, _, ⟨rfl, rfl, rfl⟩, rfl⟩
 refine Qa rfl (XO rfl rfl rfl rfl) ?_
 refine Qd (tZ [0, 1, 2, 11] [0, 1] [0] rfl rfl rfl rfl ?_)
 refine Qp (congrArg (fun b => some (Value.bool b)) (congrArg (!·) (Option.some.inj (show some true = some made1 from hx1)).symm)) ?_
 refine Qt (Qe (QC (Qe (Qc (sMv rfl rfl rfl ?_)))))
 refine Qa rfl (Qf rfl rfl rfl rfl rfl (QI (a := np2) (b := (0 : Int)))) ?_
 refine sAs rfl rfl rfl ?_
 refine Qd (tZ [0, 1, 2, 12] [0, 1] [0] rfl rfl rfl rfl ?_)
 rcases bC (decide (np2 < (0 : Int))) with hg1 | hg1
 ·replace h := br_t hg1 h
  refine Ql (cgb hg1) ?_
  refine Qe (Qc (sAs rfl rfl rfl ?_))
  refine sAs rfl rfl rfl ?_
  refine Qd (tZ [6, 7] [0, 1] [0] rfl rfl rfl rfl ?_)
  refine Zr u8S ?_
  obtain rfl := Option.some.inj h
  exact Qn rfl rfl (resA (vs := [.slice none 0 0, vI (2 : Int)]) rfl ⟨rfl, rfl, trivial⟩) [0, 1, 2] [] rfl rfl rfl ⟨(.slice none 0 0), rfl, rfl, rfl⟩
 ·replace h := br_f hg1 h
  refine Qp (cgb hg1) ?_
  refine Qe (Qc (sMv rfl rfl rfl ?_))
  refine Qa rfl (Qf rfl rfl rfl rfl rfl (ZG (a := np2) (b := (0 : Int)))) ?_
  refine sAs rfl rfl rfl ?_
  refine Qd (tZ [0, 1, 2, 15] [0, 1] [0] rfl rfl rfl rfl ?_)
  rcases bC (np2 == (0 : Int)) with hg2 | hg2
  ·replace h := br_t hg2 h
   refine Ql (cgb hg2) ?_
   refine Qe (Qc (sAs rfl rfl rfl ?_))
   refine sAs rfl rfl rfl ?_
   refine Qd (tZ [6, 7] [0, 1] [0] rfl rfl rfl rfl ?_)
   refine Zr u8S ?_
   obtain rfl := Option.some.inj h
   exact Qn rfl rfl (resA (vs := [.slice none 0 0, vI (0 : Int)]) rfl ⟨rfl, rfl, trivial⟩) [0, 1, 2] [] rfl rfl rfl ⟨(.slice none 0 0), rfl, rfl, rfl⟩
  ·replace h := br_f hg2 h
   refine Qp (cgb hg2) ?_
   refine Qt (Zx (Qe (Qc (sMv rfl rfl rfl ?_))))
   refine sMv rfl rfl rfl ?_
   refine sMv rfl rfl rfl ?_
   refine Qa rfl (QX rfl rfl rfl rfl (Xw (n := np2) Try.underlying3 Try.underlying27)) ?_
   obtain ⟨bytes1, hx2, h⟩ := ob_e h
   refine Qs rfl (QJ [2, 3] (w_gmem_Mem_bytes hx2) [0, 1] [0] rfl rfl rfl rfl rfl callee38 rfl rfl rfl rfl rfl) ?_
   rintro _ ⟨_, _, _, ⟨rfl, rfl, rfl⟩, rfl⟩
   refine sAs rfl rfl rfl ?_
   refine Qd (tZ [8] [0, 1] [0] rfl rfl rfl rfl ?_)
   rcases onO_cases h with ⟨ho1, h⟩ | ⟨w1, ho1, h⟩
   ·refine Tk_eqv (x := winV 1 vsm1 bytes1) (y := .slice none 0 0) (by rw [ho1]; rfl) (fun z => ⟨[(8, some z)], [some (Qm b_m 113 [vm1, vm2]), some (QV u8S true vm2 vsm1 m.b none)], [Fact.sl Qz vm1 m.l]⟩) ?_
    refine Qe (Qe (Qc (sMv rfl rfl rfl ?_)))
    refine Qa rfl (OpT_eqNilN rfl rfl rfl (.inl rfl) rfl rfl Try.underlying39) ?_
    refine Qd (tZ [8, 24] [0, 1] [0] rfl rfl rfl rfl ?_)
    refine Ql rfl ?_
    refine Qe (Qc (sAs rfl rfl rfl ?_))
    refine sAs rfl rfl rfl ?_
    refine Qd (tZ [6, 7] [0, 1] [0] rfl rfl rfl rfl ?_)
    refine Zr u8S ?_
    obtain rfl := Option.some.inj h
    exact Qn rfl rfl (resA (vs := [.slice none 0 0, vI (5 : Int)]) rfl ⟨rfl, rfl, trivial⟩) [0, 1, 2] [] rfl rfl rfl ⟨(.slice none 0 0), rfl, rfl, rfl⟩
   ·refine Tk_eqv (x := winV 1 vsm1 bytes1) (y := subV (vsAt vsm1 (Int.toNat w1.1)) 1 (Int.toNat w1.2.1) (Int.toNat w1.2.2)) (by rw [ho1]; rfl) (fun z => ⟨[(8, some z)], [some (Qm b_m 113 [vm1, vm2]), some (QV u8S true vm2 vsm1 m.b none)], [Fact.sl Qz vm1 m.l]⟩) ?_
    obtain ⟨row1, hx3, h⟩ := ob_e h
    refine Tk_vs (vs_focus (i := 1) (j := w1.1) rfl hx3) ?_
    obtain ⟨hc1, h⟩ := ZK h
    refine Qe (Qe (Qc (sMv rfl rfl rfl ?_)))
    obtain ⟨hc2, h⟩ := ZK h
    refine Qa rfl (OpT_eqSub (S := u8S) (l := w1.2.1) (m := w1.2.2) rfl rfl rfl (.inl rfl) rfl rfl Try.underlying39 (i := 2) rfl hc1 hc2) ?_
    refine Qd (tZ [8, 24] [0, 1, 2] [0] rfl rfl rfl rfl ?_)
    refine Qp rfl ?_
    refine Qt (Qe (Qc (sMv rfl rfl rfl ?_)))
    obtain ⟨cloneb1, hx4, h⟩ := ob_e h
    refine Qs rfl (Zu [2] [0, 1, 2, 3] (w_slices_Clone_bytebyte hx4) [] rfl rfl rfl rfl rfl callee107 rfl rfl rfl rfl rfl rfl (Zl (bor_sub (S := u8S) (l := w1.2.1) (m := w1.2.2) 2 rfl rfl hc1) ZZ) (by rintro _ _ _ ⟨_, rfl, rfl, rfl⟩; exact ⟨rfl, (YU (ri_row (S := u8S) rfl _ _) XS)⟩)) ?_
    rintro _ ⟨v1, _, _, ⟨_, rfl, rfl, rfl⟩, rfl⟩
    refine sAs rfl rfl rfl ?_
    refine sAs rfl rfl rfl ?_
    refine Qd (tZ [6, 7] [0, 1, 2, 3] [0] rfl rfl rfl rfl ?_)
    refine Tk_vs (vs_unfocus0 (i := 1) (q := 2) rfl rfl rfl hx3) ?_
    obtain rfl := Option.some.inj h
    exact Qn rfl rfl (resA (vs := [v1, vI (0 : Int)]) rfl ⟨rfl, rfl, trivial⟩) [0, 1, 3] [] rfl rfl rfl ⟨v1, rfl, rfl, rfl⟩

set_option maxRecDepth 100000 in
set_option maxHeartbeats 4000000 in
theorem w_serial_isSize {np0 : Int} {r : Bool} (h : Kc np0 = some r) :
  Ctr Try.prog 91 #[vI np0] [] []
   (fun rv own shr => rv = vB r ∧ own = [] ∧ shr = []) := by
 unfold Kc at h
 refine Ctr.mk (args := [vI np0]) Try.func91 rfl rfl (fun R0 w0 B => ?_)
 refine Qe (Qc (sAs rfl rfl rfl ?_))
 refine Qd (tZ [0] [] [] rfl rfl rfl rfl ?_)
 refine Qe (Qc (sMv rfl rfl rfl ?_))
 refine Qa rfl (Qf rfl rfl rfl rfl rfl (YF (a := np0) (b := (1 : Int)))) ?_
 refine sMv rfl rfl rfl ?_
 rcases bC (decide (np0 ≥ (1 : Int))) with hg1 | hg1
 ·replace h := br_t hg1 h
  refine Qh rfl rfl (cgb hg1) (Qk rfl rfl rfl rfl) ?_
  rintro _ rfl
  refine Qh rfl rfl (cgb hg1) (Qf rfl rfl rfl rfl rfl (bin_leq_i (a := np0) (b := (32768 : Int)))) ?_
  rintro _ rfl
  refine Qa rfl (Qr rfl rfl rfl (cgb hg1) rfl) ?_
  refine sAs rfl rfl rfl ?_
  refine Qd (tZ [2] [] [] rfl rfl rfl rfl ?_)
  obtain rfl := Option.some.inj h
  exact Qn rfl rfl (resA (vs := [vB (decide (np0 ≤ (32768 : Int)))]) rfl ⟨rfl, trivial⟩) [] [] rfl rfl rfl ⟨rfl, rfl, rfl⟩
 ·replace h := br_f hg1 h
  refine Qg rfl rfl (cgb hg1) rfl rfl ?_
  refine Qg rfl rfl (cgb hg1) rfl rfl ?_
  refine Qa rfl (Qw rfl rfl rfl (cgb hg1) rfl) ?_
  refine sAs rfl rfl rfl ?_
  refine Qd (tZ [2] [] [] rfl rfl rfl rfl ?_)
  obtain rfl := Option.some.inj h
  exact Qn rfl rfl (resA (vs := [vB false]) rfl ⟨rfl, trivial⟩) [] [] rfl rfl rfl ⟨rfl, rfl, rfl⟩

set_option maxRecDepth 100000 in
set_option maxHeartbeats 4000000 in
theorem w_serial_Power {np0 : Int} {r : Bool} (h : serial_Power np0 = some r) :
  Ctr Try.prog 117 #[vI np0] [] []
   (fun rv own shr => rv = vB r ∧ own = [] ∧ shr = []) := by
 unfold serial_Power at h
 refine Ctr.mk (args := [vI np0]) Try.func117 rfl rfl (fun R0 w0 B => ?_)
 refine Qe (Qc (sAs rfl rfl rfl ?_))
 refine Qd (tZ [0] [] [] rfl rfl rfl rfl ?_)
 refine Qe (Qc (sMv rfl rfl rfl ?_))
 obtain ⟨issize1, hx1, h⟩ := ob_e h
 refine Qs rfl (Qv (w_serial_isSize hx1) [] [] rfl rfl rfl rfl rfl callee91 rfl rfl rfl rfl) ?_
 rintro _ ⟨_, _, _, ⟨rfl, rfl, rfl⟩, rfl⟩
 refine sMv rfl rfl rfl ?_
 rcases bC (issize1) with hg1 | hg1
 ·replace h := br_t hg1 h
  refine Qh rfl rfl (cgb hg1) (Qk rfl rfl rfl rfl) ?_
  rintro _ rfl
  refine Qh rfl rfl (cgb hg1) (Qk rfl rfl rfl rfl) ?_
  rintro _ rfl
  refine Qh rfl rfl (cgb hg1) (Qf rfl rfl rfl rfl rfl (bin_sub_i (a := np0) (b := (1 : Int)))) ?_
  rintro _ rfl
  refine Qh rfl rfl (cgb hg1) (Qf rfl rfl rfl rfl rfl (bin_and_i (a := np0) (b := wi (np0 - (1 : Int))))) ?_
  rintro _ rfl
  refine Qh rfl rfl (cgb hg1) (Qf rfl rfl rfl rfl rfl (ZG (a := andi np0 (wi (np0 - (1 : Int)))) (b := (0 : Int)))) ?_
  rintro _ rfl
  refine Qa rfl (Qr rfl rfl rfl (cgb hg1) rfl) ?_
  refine sAs rfl rfl rfl ?_
  refine Qd (tZ [2] [] [] rfl rfl rfl rfl ?_)
  obtain rfl := Option.some.inj h
  exact Qn rfl rfl (resA (vs := [vB ((andi np0 (wi (np0 - (1 : Int)))) == (0 : Int))]) rfl ⟨rfl, trivial⟩) [] [] rfl rfl rfl ⟨rfl, rfl, rfl⟩
 ·replace h := br_f hg1 h
  refine Qg rfl rfl (cgb hg1) rfl rfl ?_
  refine Qg rfl rfl (cgb hg1) rfl rfl ?_
  refine Qg rfl rfl (cgb hg1) rfl rfl ?_
  refine Qg rfl rfl (cgb hg1) rfl rfl ?_
  refine Qg rfl rfl (cgb hg1) rfl rfl ?_
  refine Qa rfl (Qw rfl rfl rfl (cgb hg1) rfl) ?_
  refine sAs rfl rfl rfl ?_
  refine Qd (tZ [2] [] [] rfl rfl rfl rfl ?_)
  obtain rfl := Option.some.inj h
  exact Qn rfl rfl (resA (vs := [vB false]) rfl ⟨rfl, trivial⟩) [] [] rfl rfl rfl ⟨rfl, rfl, rfl⟩

set_option maxRecDepth 100000 in
set_option maxHeartbeats 4000000 in
theorem w_layout_isSize {rp0 : Rings} {r : Bool} (h : layout_isSize rp0 = some r) :
  Ctr Try.prog 108 #[.agg #[vB rp0.Packed, vI rp0.Size, vU64 rp0.Desc, vU64 rp0.Driver, vU64 rp0.Device]] [] []
   (fun rv own shr => rv = vB r ∧ own = [] ∧ shr = []) := by
 unfold layout_isSize at h
 refine Ctr.mk (args := [.agg #[vB rp0.Packed, vI rp0.Size, vU64 rp0.Desc, vU64 rp0.Driver, vU64 rp0.Device]]) Try.func108 rfl rfl (fun R0 w0 B => ?_)
 refine Qe (Qc (Qu rfl (ZA rfl rfl rfl rfl) fun b1 => ?_))
 refine sAs rfl rfl rfl ?_
 refine Qd (tZ [1] [0] [] rfl rfl rfl rfl ?_)
 refine Qe (Qe (Qc (Qa rfl (Qi rfl rfl rfl rfl fldF29x0) ?_)))
 refine Qa rfl (Qj rfl rfl rfl rfl tyF4 (i := 0) rfl rfl) ?_
 refine Qd (tZ [1, 4] [0] [] rfl rfl rfl rfl ?_)
 rcases bC (rp0.Packed) with hg1 | hg1
 ·replace h := br_t hg1 h
  refine Ql (cgb hg1) ?_
  refine Qe (Qc (Qa rfl (Qi rfl rfl rfl rfl Jg) ?_))
  refine Qa rfl (Qj rfl rfl rfl rfl tyF3 (i := 0) rfl rfl) ?_
  refine Qa rfl (Qf rfl rfl rfl rfl rfl (YF (a := rp0.Size) (b := (1 : Int)))) ?_
  refine sMv rfl rfl rfl ?_
  rcases bC (decide (rp0.Size ≥ (1 : Int))) with hg2 | hg2
  ·replace h := br_t hg2 h
   refine Qh rfl rfl (cgb hg2) (Qi rfl rfl rfl rfl Jg) ?_
   rintro _ rfl
   refine Qh rfl rfl (cgb hg2) (Qj rfl rfl rfl rfl tyF3 (i := 0) rfl rfl) ?_
   rintro _ rfl
   refine Qh rfl rfl (cgb hg2) (Qf rfl rfl rfl rfl rfl (bin_leq_i (a := rp0.Size) (b := (32768 : Int)))) ?_
   rintro _ rfl
   refine Qa rfl (Qr rfl rfl rfl (cgb hg2) rfl) ?_
   refine sAs rfl rfl rfl ?_
   refine Qd (tZ [2] [] [] rfl rfl rfl rfl ?_)
   obtain rfl := Option.some.inj h
   exact Qn rfl rfl (resA (vs := [vB (decide (rp0.Size ≤ (32768 : Int)))]) rfl ⟨rfl, trivial⟩) [] [] rfl rfl rfl ⟨rfl, rfl, rfl⟩
  ·replace h := br_f hg2 h
   refine Qg rfl rfl (cgb hg2) rfl rfl ?_
   refine Qg rfl rfl (cgb hg2) rfl rfl ?_
   refine Qg rfl rfl (cgb hg2) rfl rfl ?_
   refine Qa rfl (Qw rfl rfl rfl (cgb hg2) rfl) ?_
   refine sAs rfl rfl rfl ?_
   refine Qd (tZ [2] [] [] rfl rfl rfl rfl ?_)
   obtain rfl := Option.some.inj h
   exact Qn rfl rfl (resA (vs := [vB false]) rfl ⟨rfl, trivial⟩) [] [] rfl rfl rfl ⟨rfl, rfl, rfl⟩
 ·replace h := br_f hg1 h
  refine Qp (cgb hg1) ?_
  refine Qt (Qe (Qc (Qa rfl (Qi rfl rfl rfl rfl Jg) ?_)))
  refine Qa rfl (Qj rfl rfl rfl rfl tyF3 (i := 0) rfl rfl) ?_
  obtain ⟨power1, hx1, h⟩ := ob_e h
  refine Qs rfl (Qv (w_serial_Power hx1) [] [] rfl rfl rfl rfl rfl callee117 rfl rfl rfl rfl) ?_
  rintro _ ⟨_, _, _, ⟨rfl, rfl, rfl⟩, rfl⟩
  refine sAs rfl rfl rfl ?_
  refine Qd (tZ [2] [] [] rfl rfl rfl rfl ?_)
  obtain rfl := Option.some.inj h
  exact Qn rfl rfl (resA (vs := [vB power1]) rfl ⟨rfl, trivial⟩) [] [] rfl rfl rfl ⟨rfl, rfl, rfl⟩

set_option maxRecDepth 100000 in
set_option maxHeartbeats 4000000 in
theorem w_layout_Parts {rp0 : Rings} {r : (UInt64 × UInt64 × UInt64)} (h : layout_Parts rp0 = some r) :
  Ctr Try.prog 118 #[.agg #[vB rp0.Packed, vI rp0.Size, vU64 rp0.Desc, vU64 rp0.Driver, vU64 rp0.Device]] [] []
   (fun rv own shr => rv = .tuple #[vU64 r.1, vU64 r.2.1, vU64 r.2.2] ∧ own = [] ∧ shr = []) := by
 unfold layout_Parts at h
 refine Ctr.mk (args := [.agg #[vB rp0.Packed, vI rp0.Size, vU64 rp0.Desc, vU64 rp0.Driver, vU64 rp0.Device]]) Try.func118 rfl rfl (fun R0 w0 B => ?_)
 refine Qe (Qc (Qu rfl (ZA rfl rfl rfl rfl) fun b1 => ?_))
 refine sAs rfl rfl rfl ?_
 refine sAs rfl rfl rfl ?_
 refine sAs rfl rfl rfl ?_
 refine Qd (tZ [1] [0] [] rfl rfl rfl rfl ?_)
 refine Qe (Qe (Qc (Qa rfl (Qy (vs := [vB rp0.Packed, vI rp0.Size, vU64 rp0.Desc, vU64 rp0.Driver, vU64 rp0.Device]) rfl rfl rfl rfl ZX (i := 0) rfl rfl rfl) ?_)))
 obtain ⟨issize1, hx1, h⟩ := ob_e h
 refine Qs rfl (Qv (w_layout_isSize hx1) [] [] rfl rfl rfl rfl rfl callee108 rfl rfl rfl rfl) ?_
 rintro _ ⟨_, _, _, ⟨rfl, rfl, rfl⟩, rfl⟩
 refine Qa rfl (XO rfl rfl rfl rfl) ?_
 refine Qd (tZ [1, 8] [0] [] rfl rfl rfl rfl ?_)
 rcases bC ((!issize1)) with hg1 | hg1
 ·replace h := br_t hg1 h
  refine Ql (cgb hg1) ?_
  refine Qe (Qc (sAs rfl rfl rfl ?_))
  refine sAs rfl rfl rfl ?_
  refine sAs rfl rfl rfl ?_
  refine Qd (tZ [2, 3, 4] [] [] rfl rfl rfl rfl ?_)
  obtain rfl := Option.some.inj h
  exact Qn rfl rfl (resA (vs := [vU64 (0 : UInt64), vU64 (0 : UInt64), vU64 (0 : UInt64)]) rfl ⟨rfl, rfl, rfl, trivial⟩) [] [] rfl rfl rfl ⟨rfl, rfl, rfl⟩
 ·replace h := br_f hg1 h
  refine Qp (cgb hg1) ?_
  refine Qt (Qe (Qc (Qa rfl (Qi rfl rfl rfl rfl Jg) ?_)))
  refine Qa rfl (Qj rfl rfl rfl rfl tyF3 (i := 0) rfl rfl) ?_
  refine Qa rfl (QX rfl rfl rfl rfl (Xw (n := rp0.Size) Try.underlying3 Try.underlying27)) ?_
  refine sAs rfl rfl rfl ?_
  refine Qd (tZ [1, 5] [0] [] rfl rfl rfl rfl ?_)
  refine Qe (Qe (Qc (Qa rfl (Qi rfl rfl rfl rfl fldF29x0) ?_)))
  refine Qa rfl (Qj rfl rfl rfl rfl tyF4 (i := 0) rfl rfl) ?_
  refine Qd (tZ [5, 13] [] [] rfl rfl rfl rfl ?_)
  rcases bC (rp0.Packed) with hg2 | hg2
  ·replace h := br_t hg2 h
   refine Ql (cgb hg2) ?_
   refine Qe (Qc (sMv rfl rfl rfl ?_))
   refine Qa rfl (Qf rfl rfl rfl rfl rfl (ZQ (a := (16 : UInt64)) (b := u64 rp0.Size))) ?_
   refine sAs rfl rfl rfl ?_
   refine sAs rfl rfl rfl ?_
   refine sAs rfl rfl rfl ?_
   refine Qd (tZ [2, 3, 4] [] [] rfl rfl rfl rfl ?_)
   obtain rfl := Option.some.inj h
   exact Qn rfl rfl (resA (vs := [vU64 ((16 : UInt64) * (u64 rp0.Size)), vU64 (4 : UInt64), vU64 (4 : UInt64)]) rfl ⟨rfl, rfl, rfl, trivial⟩) [] [] rfl rfl rfl ⟨rfl, rfl, rfl⟩
  ·replace h := br_f hg2 h
   refine Qp (cgb hg2) ?_
   refine Qt (Qe (Qc (sMv rfl rfl rfl ?_)))
   refine Qa rfl (Qf rfl rfl rfl rfl rfl (ZQ (a := (16 : UInt64)) (b := u64 rp0.Size))) ?_
   refine sMv rfl rfl rfl ?_
   refine Qa rfl (Qf rfl rfl rfl rfl rfl (ZQ (a := (2 : UInt64)) (b := u64 rp0.Size))) ?_
   refine Qa rfl (Qf rfl rfl rfl rfl rfl (Za (a := (6 : UInt64)) (b := (2 : UInt64) * (u64 rp0.Size)))) ?_
   refine sMv rfl rfl rfl ?_
   refine Qa rfl (Qf rfl rfl rfl rfl rfl (ZQ (a := (8 : UInt64)) (b := u64 rp0.Size))) ?_
   refine Qa rfl (Qf rfl rfl rfl rfl rfl (Za (a := (6 : UInt64)) (b := (8 : UInt64) * (u64 rp0.Size)))) ?_
   refine sAs rfl rfl rfl ?_
   refine sAs rfl rfl rfl ?_
   refine sAs rfl rfl rfl ?_
   refine Qd (tZ [2, 3, 4] [] [] rfl rfl rfl rfl ?_)
   obtain rfl := Option.some.inj h
   exact Qn rfl rfl (resA (vs := [vU64 ((16 : UInt64) * (u64 rp0.Size)), vU64 ((6 : UInt64) + ((2 : UInt64) * (u64 rp0.Size))), vU64 ((6 : UInt64) + ((8 : UInt64) * (u64 rp0.Size)))]) rfl ⟨rfl, rfl, rfl, trivial⟩) [] [] rfl rfl rfl ⟨rfl, rfl, rfl⟩

set_option maxRecDepth 100000 in
set_option maxHeartbeats 4000000 in
theorem w_layout_spans {rp0 : Rings} {r : (A3 (A2 UInt64))} (h : layout_spans rp0 = some r) :
  Ctr Try.prog 109 #[.agg #[vB rp0.Packed, vI rp0.Size, vU64 rp0.Desc, vU64 rp0.Driver, vU64 rp0.Device]] [] []
   (fun rv own shr => rv = .agg #[vU64 r.a0.a0, vU64 r.a0.a1, vU64 r.a1.a0, vU64 r.a1.a1, vU64 r.a2.a0, vU64 r.a2.a1] ∧ own = [] ∧ shr = []) := by
 unfold layout_spans at h
 refine Ctr.mk (args := [.agg #[vB rp0.Packed, vI rp0.Size, vU64 rp0.Desc, vU64 rp0.Driver, vU64 rp0.Device]]) Try.func109 rfl rfl (fun R0 w0 B => ?_)
 refine Qe (Qc (Qu rfl (ZA rfl rfl rfl rfl) fun b1 => ?_))
 refine Qu rfl (QD rfl rfl rfl tyZ184) fun b2 => ?_
 refine Qd (tZ [1, 2] [0, 1] [] rfl rfl rfl rfl ?_)
 refine Qe (Qc (Qa rfl (Qy (vs := [vB rp0.Packed, vI rp0.Size, vU64 rp0.Desc, vU64 rp0.Driver, vU64 rp0.Device]) rfl rfl rfl rfl ZX (i := 0) rfl rfl rfl) ?_))
 obtain ⟨parts1, hx1, h⟩ := ob_e h
 refine Qs rfl (Qv (w_layout_Parts hx1) [] [] rfl rfl rfl rfl rfl callee118 rfl rfl rfl rfl) ?_
 rintro _ ⟨_, _, _, ⟨rfl, rfl, rfl⟩, rfl⟩
 refine sMv rfl rfl rfl ?_
 refine Qa rfl (Qq rfl rfl rfl rfl rfl) ?_
 refine Qa rfl (Qq rfl rfl rfl rfl rfl) ?_
 refine Qa rfl (Qq rfl rfl rfl rfl rfl) ?_
 refine sAs rfl rfl rfl ?_
 refine sAs rfl rfl rfl ?_
 refine sAs rfl rfl rfl ?_
 refine Qd (tZ [1, 2, 3, 4, 5] [0, 1] [] rfl rfl rfl rfl ?_)
 refine Qe (Qc (Qa rfl (Qi rfl rfl rfl rfl KC) ?_))
 refine Qa rfl (Qj rfl rfl rfl rfl QZ (i := 0) rfl rfl) ?_
 refine sMv rfl rfl rfl ?_
 refine Qa rfl (QE (v := .agg #[vU64 rp0.Desc, vU64 parts1.1]) rfl rfl rfl rfl (bldV (by kernel_rfl))) ?_
 refine Qa rfl (Qi rfl rfl rfl rfl fldF29x3) ?_
 refine Qa rfl (Qj rfl rfl rfl rfl QZ (i := 0) rfl rfl) ?_
 refine sMv rfl rfl rfl ?_
 refine Qa rfl (QE (v := .agg #[vU64 rp0.Driver, vU64 parts1.2.1]) rfl rfl rfl rfl (bldV (by kernel_rfl))) ?_
 refine Qa rfl (Qi rfl rfl rfl rfl fldF29x4) ?_
 refine Qa rfl (Qj rfl rfl rfl rfl QZ (i := 0) rfl rfl) ?_
 refine sMv rfl rfl rfl ?_
 refine Qa rfl (QE (v := .agg #[vU64 rp0.Device, vU64 parts1.2.2]) rfl rfl rfl rfl (bldV (by kernel_rfl))) ?_
 refine Qa rfl (QE (v := .agg #[vU64 rp0.Desc, vU64 parts1.1, vU64 rp0.Driver, vU64 parts1.2.1, vU64 rp0.Device, vU64 parts1.2.2]) rfl rfl rfl rfl (bldV (by kernel_rfl))) ?_
 refine Qa rfl (Qo (cs' := [vU64 rp0.Desc, vU64 parts1.1, vU64 rp0.Driver, vU64 parts1.2.1, vU64 rp0.Device, vU64 parts1.2.2]) rfl rfl rfl rfl tyF184 (i := 1) rfl rfl rfl (QF rfl) rfl) ?_
 refine Qd (tZ [2] [1] [] rfl rfl rfl rfl ?_)
 obtain rfl := Option.some.inj h
 exact Qn rfl rfl (resA (vs := [.agg #[vU64 rp0.Desc, vU64 parts1.1, vU64 rp0.Driver, vU64 parts1.2.1, vU64 rp0.Device, vU64 parts1.2.2]]) rfl ⟨⟨_, 0, _, _, _, rfl, rfl, .inl ⟨tyF184, rfl, rfl⟩⟩, trivial⟩) [] [] rfl rfl rfl ⟨rfl, rfl, rfl⟩

set_option maxRecDepth 100000 in
set_option maxHeartbeats 4000000 in
theorem w_layout_steps {rp0 : Rings} {r : (A3 UInt64)} (h : layout_steps rp0 = some r) :
  Ctr Try.prog 110 #[.agg #[vB rp0.Packed, vI rp0.Size, vU64 rp0.Desc, vU64 rp0.Driver, vU64 rp0.Device]] [] []
   (fun rv own shr => rv = .agg #[vU64 r.a0, vU64 r.a1, vU64 r.a2] ∧ own = [] ∧ shr = []) := by
 unfold layout_steps at h
 refine Ctr.mk (args := [.agg #[vB rp0.Packed, vI rp0.Size, vU64 rp0.Desc, vU64 rp0.Driver, vU64 rp0.Device]]) Try.func110 rfl rfl (fun R0 w0 B => ?_)
 refine Qe (Qc (Qu rfl (ZA rfl rfl rfl rfl) fun b1 => ?_))
 refine Qu rfl (QD rfl rfl rfl tyZ186) fun b2 => ?_
 refine Qd (tZ [1, 2] [0, 1] [] rfl rfl rfl rfl ?_)
 refine Qe (Qe (Qc (Qa rfl (Qi rfl rfl rfl rfl fldF29x0) ?_)))
 refine Qa rfl (Qj rfl rfl rfl rfl tyF4 (i := 0) rfl rfl) ?_
 refine Qd (tZ [2, 4] [1] [] rfl rfl rfl rfl ?_)
 rcases bC (rp0.Packed) with hg1 | hg1
 ·replace h := br_t hg1 h
  refine Ql (cgb hg1) ?_
  refine Qe (Qc (Qa rfl (QE (v := .agg #[vU64 (16 : UInt64), vU64 (4 : UInt64), vU64 (4 : UInt64)]) rfl rfl rfl rfl (bldV (by kernel_rfl))) ?_))
  refine Qa rfl (Qo (cs' := [vU64 (16 : UInt64), vU64 (4 : UInt64), vU64 (4 : UInt64)]) rfl rfl rfl rfl tyF186 (i := 0) rfl rfl rfl (QF rfl) rfl) ?_
  refine Qd (tZ [2] [0] [] rfl rfl rfl rfl ?_)
  obtain rfl := Option.some.inj h
  exact Qn rfl rfl (resA (vs := [.agg #[vU64 (16 : UInt64), vU64 (4 : UInt64), vU64 (4 : UInt64)]]) rfl ⟨⟨_, 0, _, _, _, rfl, rfl, .inl ⟨tyF186, rfl, rfl⟩⟩, trivial⟩) [] [] rfl rfl rfl ⟨rfl, rfl, rfl⟩
 ·replace h := br_f hg1 h
  refine Qp (cgb hg1) ?_
  refine Qt (Qe (Qc (Qa rfl (QE (v := .agg #[vU64 (16 : UInt64), vU64 (2 : UInt64), vU64 (4 : UInt64)]) rfl rfl rfl rfl (bldV (by kernel_rfl))) ?_)))
  refine Qa rfl (Qo (cs' := [vU64 (16 : UInt64), vU64 (2 : UInt64), vU64 (4 : UInt64)]) rfl rfl rfl rfl tyF186 (i := 0) rfl rfl rfl (QF rfl) rfl) ?_
  refine Qd (tZ [2] [0] [] rfl rfl rfl rfl ?_)
  obtain rfl := Option.some.inj h
  exact Qn rfl rfl (resA (vs := [.agg #[vU64 (16 : UInt64), vU64 (2 : UInt64), vU64 (4 : UInt64)]]) rfl ⟨⟨_, 0, _, _, _, rfl, rfl, .inl ⟨tyF186, rfl, rfl⟩⟩, trivial⟩) [] [] rfl rfl rfl ⟨rfl, rfl, rfl⟩

set_option maxRecDepth 100000 in
set_option maxHeartbeats 4000000 in
theorem w_layout_beyond {atp0 : UInt64} {np1 : UInt64} {r : Bool} (h : Jc atp0 np1 = some r) :
  Ctr Try.prog 111 #[vU64 atp0, vU64 np1] [] []
   (fun rv own shr => rv = vB r ∧ own = [] ∧ shr = []) := by
 unfold Jc at h
 refine Ctr.mk (args := [vU64 atp0, vU64 np1]) Try.func111 rfl rfl (fun R0 w0 B => ?_)
 refine Qe (Qc (sAs rfl rfl rfl ?_))
 refine Qd (tZ [0, 1] [] [] rfl rfl rfl rfl ?_)
 refine Qe (Qc (sMv rfl rfl rfl ?_))
 refine Qa rfl (Qf rfl rfl rfl rfl rfl (Xu (a := np1) (b := (0 : UInt64)))) ?_
 refine sMv rfl rfl rfl ?_
 rcases bC (decide (np1 > (0 : UInt64))) with hg1 | hg1
 ·replace h := br_t hg1 h
  refine Qh rfl rfl (cgb hg1) (Qk rfl rfl rfl rfl) ?_
  rintro _ rfl
  refine Qh rfl rfl (cgb hg1) (Qf rfl rfl rfl rfl rfl (Zc (a := np1) (b := (1 : UInt64)))) ?_
  rintro _ rfl
  refine Qh rfl rfl (cgb hg1) (Qk rfl rfl rfl rfl) ?_
  rintro _ rfl
  refine Qh rfl rfl (cgb hg1) (Qf rfl rfl rfl rfl rfl (Zc (a := (18446744073709551615 : UInt64)) (b := atp0))) ?_
  rintro _ rfl
  refine Qh rfl rfl (cgb hg1) (Qf rfl rfl rfl rfl rfl (Xu (a := np1 - (1 : UInt64)) (b := (18446744073709551615 : UInt64) - atp0))) ?_
  rintro _ rfl
  refine Qa rfl (Qr rfl rfl rfl (cgb hg1) rfl) ?_
  refine sAs rfl rfl rfl ?_
  refine Qd (tZ [4] [] [] rfl rfl rfl rfl ?_)
  obtain rfl := Option.some.inj h
  exact Qn rfl rfl (resA (vs := [vB (decide ((np1 - (1 : UInt64)) > ((18446744073709551615 : UInt64) - atp0)))]) rfl ⟨rfl, trivial⟩) [] [] rfl rfl rfl ⟨rfl, rfl, rfl⟩
 ·replace h := br_f hg1 h
  refine Qg rfl rfl (cgb hg1) rfl rfl ?_
  refine Qg rfl rfl (cgb hg1) rfl rfl ?_
  refine Qg rfl rfl (cgb hg1) rfl rfl ?_
  refine Qg rfl rfl (cgb hg1) rfl rfl ?_
  refine Qg rfl rfl (cgb hg1) rfl rfl ?_
  refine Qa rfl (Qw rfl rfl rfl (cgb hg1) rfl) ?_
  refine sAs rfl rfl rfl ?_
  refine Qd (tZ [4] [] [] rfl rfl rfl rfl ?_)
  obtain rfl := Option.some.inj h
  exact Qn rfl rfl (resA (vs := [vB false]) rfl ⟨rfl, trivial⟩) [] [] rfl rfl rfl ⟨rfl, rfl, rfl⟩

set_option maxRecDepth 100000 in
set_option maxHeartbeats 4000000 in
theorem w_layout_common {atp0 : UInt64} {np1 : UInt64} {top2 : UInt64} {m : UInt64} {r : Bool} (h : Jb atp0 np1 top2 m = some r) :
  Ctr Try.prog 112 #[vU64 atp0, vU64 np1, vU64 top2, vU64 m] [] []
   (fun rv own shr => rv = vB r ∧ own = [] ∧ shr = []) := by
 unfold Jb at h
 refine Ctr.mk (args := [vU64 atp0, vU64 np1, vU64 top2, vU64 m]) Try.func112 rfl rfl (fun R0 w0 B => ?_)
 refine Qe (Qc (sAs rfl rfl rfl ?_))
 refine Qd (tZ [0, 1, 2, 3] [] [] rfl rfl rfl rfl ?_)
 refine Qe (Qe (Qc (sMv rfl rfl rfl ?_)))
 refine sMv rfl rfl rfl ?_
 refine Qa rfl (Qf rfl rfl rfl rfl rfl (bin_leq_u64 (a := atp0) (b := top2))) ?_
 refine Qd (tZ [0, 1, 2, 3, 11] [] [] rfl rfl rfl rfl ?_)
 rcases bC (decide (atp0 ≤ top2)) with hg1 | hg1
 ·replace h := br_t hg1 h
  refine Ql (cgb hg1) ?_
  refine Qe (Qc (sMv rfl rfl rfl ?_))
  refine sMv rfl rfl rfl ?_
  refine Qa rfl (Qf rfl rfl rfl rfl rfl (Zc (a := top2) (b := atp0))) ?_
  refine sMv rfl rfl rfl ?_
  refine Qa rfl (Qf rfl rfl rfl rfl rfl (ZD (a := top2 - atp0) (b := np1))) ?_
  refine sAs rfl rfl rfl ?_
  refine Qd (tZ [8] [] [] rfl rfl rfl rfl ?_)
  obtain rfl := Option.some.inj h
  exact Qn rfl rfl (resA (vs := [vB (decide ((top2 - atp0) < np1))]) rfl ⟨rfl, trivial⟩) [] [] rfl rfl rfl ⟨rfl, rfl, rfl⟩
 ·replace h := br_f hg1 h
  refine Qp (cgb hg1) ?_
  refine Qt (Qe (Qc (sMv rfl rfl rfl ?_)))
  refine sMv rfl rfl rfl ?_
  refine Qa rfl (Qf rfl rfl rfl rfl rfl (Zc (a := atp0) (b := top2))) ?_
  refine sMv rfl rfl rfl ?_
  refine Qa rfl (Qf rfl rfl rfl rfl rfl (ZD (a := atp0 - top2) (b := m))) ?_
  refine sAs rfl rfl rfl ?_
  refine Qd (tZ [8] [] [] rfl rfl rfl rfl ?_)
  obtain rfl := Option.some.inj h
  exact Qn rfl rfl (resA (vs := [vB (decide ((atp0 - top2) < m))]) rfl ⟨rfl, trivial⟩) [] [] rfl rfl rfl ⟨rfl, rfl, rfl⟩

set_option maxRecDepth 100000 in
set_option maxHeartbeats 4000000 in
theorem w_layout_Check {rp0 : Rings} {r : Int} (h : layout_Check rp0 = some r) :
  Ctr Try.prog 83 #[.agg #[vB rp0.Packed, vI rp0.Size, vU64 rp0.Desc, vU64 rp0.Driver, vU64 rp0.Device]] [] []
   (fun rv own shr => rv = vI r ∧ own = [] ∧ shr = []) := by
 unfold layout_Check at h
 refine Ctr.mk (args := [.agg #[vB rp0.Packed, vI rp0.Size, vU64 rp0.Desc, vU64 rp0.Driver, vU64 rp0.Device]]) Try.func83 rfl rfl (fun R0 w0 B => ?_)
 refine Qe (Qc (Qu rfl (ZA rfl rfl rfl rfl) fun b1 => ?_))
 refine sAs rfl rfl rfl ?_
 refine Qd (tZ [1] [0] [] rfl rfl rfl rfl ?_)
 refine Qe (Qe (Qc (Qa rfl (Qy (vs := [vB rp0.Packed, vI rp0.Size, vU64 rp0.Desc, vU64 rp0.Driver, vU64 rp0.Device]) rfl rfl rfl rfl ZX (i := 0) rfl rfl rfl) ?_)))
 obtain ⟨issize1, hx1, h⟩ := ob_e h
 refine Qs rfl (Qv (w_layout_isSize hx1) [] [] rfl rfl rfl rfl rfl callee108 rfl rfl rfl rfl) ?_
 rintro _ ⟨_, _, _, ⟨rfl, rfl, rfl⟩, rfl⟩
 refine Qa rfl (XO rfl rfl rfl rfl) ?_
 refine Qd (tZ [1, 11] [0] [] rfl rfl rfl rfl ?_)
 rcases bC ((!issize1)) with hg1 | hg1
 ·replace h := br_t hg1 h
  refine Ql (cgb hg1) ?_
  refine Qe (Qc (sAs rfl rfl rfl ?_))
  refine Qd (tZ [2] [] [] rfl rfl rfl rfl ?_)
  obtain rfl := Option.some.inj h
  exact Qn rfl rfl (resA (vs := [vI (2 : Int)]) rfl ⟨rfl, trivial⟩) [] [] rfl rfl rfl ⟨rfl, rfl, rfl⟩
 ·replace h := br_f hg1 h
  refine Qp (cgb hg1) ?_
  refine Qt (Qe (QU (by kernel_rfl) ?_))
  refine Xn [0, 1, 0, 7, 0, 0, 63, 127] (by kernel_rfl) fun htb => ?_
  refine aZ [1] [0] [] rfl rfl rfl rfl ?_
  obtain ⟨spans1, hx2, h⟩ := ob_e h
  obtain ⟨steps1, hx3, h⟩ := ob_e h
  refine QW (lo := 0) (hi := 6) htb rfl rfl (by kernel_rfl) (fun c L a w => ∃ (b2 : Nat), ∃ (b3 : Nat), Sat c ⟨[(1, some (.pointer (some ⟨b1, 0, none⟩))), (12, bif L 0 then some (.agg #[vB rp0.Packed, vI rp0.Size, vU64 rp0.Desc, vU64 rp0.Driver, vU64 rp0.Device]) else none), (13, bif L 1 then some (.agg #[vU64 spans1.a0.a0, vU64 spans1.a0.a1, vU64 spans1.a1.a0, vU64 spans1.a1.a1, vU64 spans1.a2.a0, vU64 spans1.a2.a1]) else none), (14, bif L 2 then some (.agg #[vB rp0.Packed, vI rp0.Size, vU64 rp0.Desc, vU64 rp0.Driver, vU64 rp0.Device]) else none), (15, bif L 3 then some (.agg #[vU64 steps1.a0, vU64 steps1.a1, vU64 steps1.a2]) else none), (3, bif L 4 then some (.pointer (some ⟨b2, 0, none⟩)) else none), (4, bif L 5 then some (.pointer (some ⟨b3, 0, none⟩)) else none)], [(some (Qm b1 29 [vB rp0.Packed, vI rp0.Size, vU64 rp0.Desc, vU64 rp0.Driver, vU64 rp0.Device]) : Option Res), (bif L 4 then some (Qm b2 184 [vU64 (0 : UInt64), vU64 (0 : UInt64), vU64 (0 : UInt64), vU64 (0 : UInt64), vU64 (0 : UInt64), vU64 (0 : UInt64)]) else none : Option Res), (bif L 5 then some (Qm b3 186 [vU64 (0 : UInt64), vU64 (0 : UInt64), vU64 (0 : UInt64)]) else none : Option Res)], []⟩ a w) [([], [1, 3]), ([0], [3]), ([], [3]), ([0, 1, 2], []), ([], []), ([], [])] rfl (by kernel_rfl) ?_ (Qb ?_ (Qb ?_ (Qb ?_ (Qb ?_ (Qb ?_ (Qb ?_ (QB))))))) ?_
  ·intro a w hs
   exact ⟨0, 0, hs.startF [12, 13, 14, 15, 3, 4] [0, 1, 2] [] rfl rfl rfl rfl⟩
  ·intro L a w hv K Q hK
   obtain ⟨b2, b3, hs⟩ := hv
   exact wGo rfl rfl hs (Qy (vs := [vB rp0.Packed, vI rp0.Size, vU64 rp0.Desc, vU64 rp0.Driver, vU64 rp0.Device]) rfl rfl rfl rfl ZX (i := 0) rfl rfl rfl) fun a w hs => hK a w ⟨b2, b3, pF hs 1 [0, 1, 2] [] rfl⟩
  ·intro L a w hv K Q hK
   obtain ⟨b2, b3, hs⟩ := hv
   refine QO rfl rfl hs (Qv (w_layout_spans hx2) [] [] rfl rfl rfl rfl rfl callee109 rfl rfl rfl rfl) ?_
   rintro _ ⟨_, _, _, ⟨rfl, rfl, rfl⟩, rfl⟩ a' w' hs'
   exact hK a' w' ⟨b2, b3, hs'.putF (i := 2) rfl [0, 1, 2] [] rfl rfl rfl rfl⟩
  ·intro L a w hv K Q hK
   obtain ⟨b2, b3, hs⟩ := hv
   exact wGo rfl rfl hs (Qy (vs := [vB rp0.Packed, vI rp0.Size, vU64 rp0.Desc, vU64 rp0.Driver, vU64 rp0.Device]) rfl rfl rfl rfl ZX (i := 0) rfl rfl rfl) fun a w hs => hK a w ⟨b2, b3, pF hs 3 [0, 1, 2] [] rfl⟩
  ·intro L a w hv K Q hK
   obtain ⟨b2, b3, hs⟩ := hv
   refine QO rfl rfl hs (Qv (w_layout_steps hx3) [] [] rfl rfl rfl rfl rfl callee110 rfl rfl rfl rfl) ?_
   rintro _ ⟨_, _, _, ⟨rfl, rfl, rfl⟩, rfl⟩ a' w' hs'
   exact hK a' w' ⟨b2, b3, hs'.putF (i := 4) rfl [0, 1, 2] [] rfl rfl rfl rfl⟩
  ·intro L a w hv K Q hK
   obtain ⟨b2, b3, hs⟩ := hv
   refine QO rfl rfl hs (QD rfl rfl rfl tyZ184) ?_
   rintro _ ⟨b2', rfl⟩ a' w' hs'
   exact hK a' w' ⟨b2', b3, hs'.putF (i := 5) rfl [0, 3, 2] [] rfl rfl rfl rfl⟩
  ·intro L a w hv K Q hK
   obtain ⟨b2, b3, hs⟩ := hv
   refine QO rfl rfl hs (QD rfl rfl rfl tyZ186) ?_
   rintro _ ⟨b3', rfl⟩ a' w' hs'
   exact hK a' w' ⟨b2, b3', hs'.putF (i := 6) rfl [0, 1, 3] [] rfl rfl rfl rfl⟩
  ·intro L a w hL hv
   rw [QM hL] at hv
   obtain ⟨b2, b3, hs⟩ := hv
   refine gZ hs [13, 15, 3, 4] [1, 2] [] rfl rfl rfl rfl ?_
   clear hs hL
   refine Qx htb (by kernel_rfl) rfl rfl (Qo (cs' := [vU64 spans1.a0.a0, vU64 spans1.a0.a1, vU64 spans1.a1.a0, vU64 spans1.a1.a1, vU64 spans1.a2.a0, vU64 spans1.a2.a1]) rfl rfl rfl rfl tyF184 (i := 0) rfl rfl rfl (QF rfl) rfl) ?_
   refine Qx htb (by kernel_rfl) rfl rfl (Qo (cs' := [vU64 steps1.a0, vU64 steps1.a1, vU64 steps1.a2]) rfl rfl rfl rfl tyF186 (i := 1) rfl rfl rfl (QF rfl) rfl) ?_
   refine Zh rfl ?_
   refine tZ [3, 4] [0, 1] [] rfl rfl rfl rfl ?_
   refine Qe (Qe (Qc (Qa rfl (Qy (vs := [vU64 spans1.a0.a0, vU64 spans1.a0.a1, vU64 spans1.a1.a0, vU64 spans1.a1.a1, vU64 spans1.a2.a0, vU64 spans1.a2.a1]) rfl rfl rfl rfl tyF184 (i := 0) rfl rfl rfl) ?_)))
   refine sMv rfl rfl rfl ?_
   refine Qd (QC (Tk_unroll 3 ?_))
   refine Qe (Qc (Qa rfl (Qf rfl rfl rfl rfl rfl (QI (a := (0 : Int)) (b := (3 : Int)))) ?_))
   refine Qd (Qe (Ql rfl ?_))
   refine Qt (Qe (QC (Qe (Qc (sMv rfl rfl rfl ?_)))))
   refine Qa rfl (OpT_idxKA (cs := [vU64 spans1.a0.a0, vU64 spans1.a0.a1, vU64 spans1.a1.a0, vU64 spans1.a1.a1, vU64 spans1.a2.a0, vU64 spans1.a2.a1]) (vs := [vU64 spans1.a0.a0, vU64 spans1.a0.a1]) rfl rfl rfl rfl rfl arrF184 tyF183 (by decide) rfl) ?_
   refine Qu rfl (QD rfl rfl rfl tyZ183) fun b4 => ?_
   refine sAs rfl rfl rfl ?_
   refine Qa rfl (Qo (cs' := [vU64 spans1.a0.a0, vU64 spans1.a0.a1]) rfl rfl rfl rfl tyF183 (i := 2) rfl rfl rfl (QF rfl) rfl) ?_
   refine Qd (tZ [3, 4, 16, 17, 6, 5] [0, 1, 2] [] rfl rfl rfl rfl ?_)
   refine Qe (Qe (QU (by kernel_rfl) ?_))
   refine Xn [0, 1, 0, 4, 12, 31, 63, 127, 255, 511, 255, 1279, 4095, 8191] (by kernel_rfl) fun htb => ?_
   refine QW (lo := 0) (hi := 5) htb rfl rfl (by kernel_rfl) (fun c L a w => Sat c ⟨[(3, some (.pointer (some ⟨b2, 0, none⟩))), (4, some (.pointer (some ⟨b3, 0, none⟩))), (16, some (.agg #[vU64 spans1.a0.a0, vU64 spans1.a0.a1, vU64 spans1.a1.a0, vU64 spans1.a1.a1, vU64 spans1.a2.a0, vU64 spans1.a2.a1])), (17, some (vI (0 : Int))), (6, some (.pointer (some ⟨b4, 0, none⟩))), (5, some (vI (0 : Int))), (21, bif L 0 then some (.pointer (some ⟨b4, 0, none⟩)) else none), (22, bif L 1 then some (vU64 spans1.a0.a0) else none), (23, bif L 2 then some (vI (0 : Int)) else none), (24, bif L 3 then some (.pointer (some ⟨b3, 0, none⟩)) else none), (25, bif L 4 then some (vU64 steps1.a0) else none)], [(some (Qm b2 184 [vU64 spans1.a0.a0, vU64 spans1.a0.a1, vU64 spans1.a1.a0, vU64 spans1.a1.a1, vU64 spans1.a2.a0, vU64 spans1.a2.a1]) : Option Res), (some (Qm b3 186 [vU64 steps1.a0, vU64 steps1.a1, vU64 steps1.a2]) : Option Res), (some (Qm b4 183 [vU64 spans1.a0.a0, vU64 spans1.a0.a1]) : Option Res)], []⟩ a w) [([], [1]), ([0], []), ([], [3, 4]), ([2], [4]), ([2, 3], [])] rfl (by kernel_rfl) ?_ (Qb ?_ (Qb ?_ (Qb ?_ (Qb ?_ (Qb ?_ (QB)))))) ?_
   ·intro a w hs
    exact hs.startF [21, 22, 23, 24, 25] [0, 1, 2] [] rfl rfl rfl rfl
   ·intro L a w hs K Q hK
    exact wGo rfl rfl hs (Zp rfl rfl rfl rfl rfl Ya (by decide)) fun a w hs => hK a w (pF hs 6 [0, 1, 2] [] rfl)
   ·intro L a w hs K Q hK
    exact wGo rfl rfl hs (Qj rfl rfl rfl rfl QZ (i := 2) rfl rfl) fun a w hs => hK a w (pF hs 7 [0, 1, 2] [] rfl)
   ·intro L a w hs K Q hK
    exact wGo rfl rfl hs (Qk rfl rfl rfl rfl) fun a w hs => hK a w (pF hs 8 [0, 1, 2] [] rfl)
   ·intro L a w hs K Q hK
    exact wGo rfl rfl hs (Zp rfl rfl rfl rfl rfl arrF186 (by decide)) fun a w hs => hK a w (pF hs 9 [0, 1, 2] [] rfl)
   ·intro L a w hs K Q hK
    exact wGo rfl rfl hs (Qj rfl rfl rfl rfl QZ (i := 1) rfl rfl) fun a w hs => hK a w (pF hs 10 [0, 1, 2] [] rfl)
   ·intro L a w hL hv
    rw [QM hL] at hv
    have hs := hv
    refine gZ hs [3, 4, 16, 17, 6, 5, 22, 25] [0, 1, 2] [] rfl rfl rfl rfl ?_
    clear hs hL
    obtain ⟨hc1, h⟩ := ZK h
    refine Qx htb (by kernel_rfl) rfl rfl (Qf rfl rfl rfl rfl rfl (bin_rem_u64 (a := spans1.a0.a0) (b := steps1.a0) (not_t hc1))) ?_
    refine Qx htb (by kernel_rfl) rfl rfl (Qf rfl rfl rfl rfl rfl (bin_neq_u64 (a := spans1.a0.a0 % steps1.a0) (b := (0 : UInt64)))) ?_
    refine Qx htb (by kernel_rfl) rfl rfl (Qk rfl rfl rfl rfl) ?_
    refine aZ [3, 4, 16, 17, 6, 5, 28] [0, 1, 2] [] rfl rfl rfl rfl ?_
    rcases bC ((spans1.a0.a0 % steps1.a0) != (0 : UInt64)) with hg2 | hg2
    ·replace h := br_t hg2 h
     refine QW (lo := 8) (hi := 12) htb rfl rfl (by kernel_rfl) (fun c L a w => Sat c ⟨[(3, some (.pointer (some ⟨b2, 0, none⟩))), (4, some (.pointer (some ⟨b3, 0, none⟩))), (16, some (.agg #[vU64 spans1.a0.a0, vU64 spans1.a0.a1, vU64 spans1.a1.a0, vU64 spans1.a1.a1, vU64 spans1.a2.a0, vU64 spans1.a2.a1])), (17, some (vI (0 : Int))), (6, some (.pointer (some ⟨b4, 0, none⟩))), (5, some (vI (0 : Int))), (28, some (vB ((spans1.a0.a0 % steps1.a0) != (0 : UInt64)))), (29, bif L 8 then some (undef) else none), (30, bif L 9 then some (undef) else none), (31, bif L 10 then some (undef) else none), (32, bif L 11 then some (undef) else none)], [(some (Qm b2 184 [vU64 spans1.a0.a0, vU64 spans1.a0.a1, vU64 spans1.a1.a0, vU64 spans1.a1.a1, vU64 spans1.a2.a0, vU64 spans1.a2.a1]) : Option Res), (some (Qm b3 186 [vU64 steps1.a0, vU64 steps1.a1, vU64 steps1.a2]) : Option Res), (some (Qm b4 183 [vU64 spans1.a0.a0, vU64 spans1.a0.a1]) : Option Res)], []⟩ a w) [([], [9]), ([8], []), ([], [11]), ([10], [])] rfl (by kernel_rfl) ?_ (Qb ?_ (Qb ?_ (Qb ?_ (Qb ?_ (QB))))) ?_
     ·intro a w hs
      exact hs.startF [29, 30, 31, 32] [0, 1, 2] [] rfl rfl rfl rfl
     ·intro L a w hs K Q hK
      exact QA rfl rfl rfl hs (cgb hg2) rfl rfl fun a w hs => hK a w (pF hs 7 [0, 1, 2] [] rfl)
     ·intro L a w hs K Q hK
      exact QA rfl rfl rfl hs (cgb hg2) rfl rfl fun a w hs => hK a w (pF hs 8 [0, 1, 2] [] rfl)
     ·intro L a w hs K Q hK
      exact QA rfl rfl rfl hs (cgb hg2) rfl rfl fun a w hs => hK a w (pF hs 9 [0, 1, 2] [] rfl)
     ·intro L a w hs K Q hK
      exact QA rfl rfl rfl hs (cgb hg2) rfl rfl fun a w hs => hK a w (pF hs 10 [0, 1, 2] [] rfl)
     ·intro L a w hL hv
      rw [QM hL] at hv
      have hs := hv
      refine gZ hs [3, 4, 16, 17, 6, 5, 28, 30, 32] [0, 1, 2] [] rfl rfl rfl rfl ?_
      clear hs hL
      refine KR htb (by kernel_rfl) rfl rfl rfl (cgb hg2) rfl rfl ?_
      refine Qx htb (by kernel_rfl) rfl rfl (Qr rfl rfl rfl (cgb hg2) rfl) ?_
      refine Zh rfl ?_
      refine tZ [3, 4, 16, 17, 6, 5, 34] [0, 1, 2] [] rfl rfl rfl rfl ?_
      refine Ql rfl ?_
      refine Qe (Qc (sAs rfl rfl rfl ?_))
      refine Qd (tZ [2] [] [] rfl rfl rfl rfl ?_)
      obtain rfl := Option.some.inj h
      exact Qn rfl rfl (resA (vs := [vI (2 : Int)]) rfl ⟨rfl, trivial⟩) [] [] rfl rfl rfl ⟨rfl, rfl, rfl⟩
    ·replace h := br_f hg2 h
     refine QW (lo := 8) (hi := 12) htb rfl rfl (by kernel_rfl) (fun c L a w => Sat c ⟨[(3, some (.pointer (some ⟨b2, 0, none⟩))), (4, some (.pointer (some ⟨b3, 0, none⟩))), (16, some (.agg #[vU64 spans1.a0.a0, vU64 spans1.a0.a1, vU64 spans1.a1.a0, vU64 spans1.a1.a1, vU64 spans1.a2.a0, vU64 spans1.a2.a1])), (17, some (vI (0 : Int))), (6, some (.pointer (some ⟨b4, 0, none⟩))), (5, some (vI (0 : Int))), (28, some (vB ((spans1.a0.a0 % steps1.a0) != (0 : UInt64)))), (29, bif L 8 then some (.pointer (some ⟨b4, 0, none⟩)) else none), (30, bif L 9 then some (vU64 spans1.a0.a0) else none), (31, bif L 10 then some (.pointer (some ⟨b4, 1, none⟩)) else none), (32, bif L 11 then some (vU64 spans1.a0.a1) else none)], [(some (Qm b2 184 [vU64 spans1.a0.a0, vU64 spans1.a0.a1, vU64 spans1.a1.a0, vU64 spans1.a1.a1, vU64 spans1.a2.a0, vU64 spans1.a2.a1]) : Option Res), (some (Qm b3 186 [vU64 steps1.a0, vU64 steps1.a1, vU64 steps1.a2]) : Option Res), (some (Qm b4 183 [vU64 spans1.a0.a0, vU64 spans1.a0.a1]) : Option Res)], []⟩ a w) [([], [9]), ([8], []), ([], [11]), ([10], [])] rfl (by kernel_rfl) ?_ (Qb ?_ (Qb ?_ (Qb ?_ (Qb ?_ (QB))))) ?_
     ·intro a w hs
      exact hs.startF [29, 30, 31, 32] [0, 1, 2] [] rfl rfl rfl rfl
     ·intro L a w hs K Q hK
      exact wYs rfl rfl rfl hs (cgb hg2) (Zp rfl rfl rfl rfl rfl Ya (by decide)) fun a w hs => hK a w (pF hs 7 [0, 1, 2] [] rfl)
     ·intro L a w hs K Q hK
      exact wYs rfl rfl rfl hs (cgb hg2) (Qj rfl rfl rfl rfl QZ (i := 2) rfl rfl) fun a w hs => hK a w (pF hs 8 [0, 1, 2] [] rfl)
     ·intro L a w hs K Q hK
      exact wYs rfl rfl rfl hs (cgb hg2) (Zp rfl rfl rfl rfl rfl Ya (by decide)) fun a w hs => hK a w (pF hs 9 [0, 1, 2] [] rfl)
     ·intro L a w hs K Q hK
      exact wYs rfl rfl rfl hs (cgb hg2) (Qj rfl rfl rfl rfl QZ (i := 2) rfl rfl) fun a w hs => hK a w (pF hs 10 [0, 1, 2] [] rfl)
     ·intro L a w hL hv
      rw [QM hL] at hv
      have hs := hv
      refine gZ hs [3, 4, 16, 17, 6, 5, 28, 30, 32] [0, 1, 2] [] rfl rfl rfl rfl ?_
      clear hs hL
      obtain ⟨beyond1, hx4, h⟩ := ob_e h
      refine Xx htb (by kernel_rfl) rfl rfl rfl (cgb hg2) (Qv (w_layout_beyond hx4) [] [] rfl rfl rfl rfl rfl callee111 rfl rfl rfl rfl) ?_
      rintro _ ⟨_, _, _, ⟨rfl, rfl, rfl⟩, rfl⟩
      refine Qx htb (by kernel_rfl) rfl rfl (Qw rfl rfl rfl (cgb hg2) rfl) ?_
      refine Zh rfl ?_
      refine tZ [3, 4, 16, 17, 6, 5, 34] [0, 1, 2] [] rfl rfl rfl rfl ?_
      rcases bC (beyond1) with hg3 | hg3
      ·replace h := br_t hg3 h
       refine Ql (cgb hg3) ?_
       refine Qe (Qc (sAs rfl rfl rfl ?_))
       refine Qd (tZ [2] [] [] rfl rfl rfl rfl ?_)
       obtain rfl := Option.some.inj h
       exact Qn rfl rfl (resA (vs := [vI (2 : Int)]) rfl ⟨rfl, trivial⟩) [] [] rfl rfl rfl ⟨rfl, rfl, rfl⟩
      ·replace h := br_f hg3 h
       refine Qp (cgb hg3) ?_
       refine Qt (Qe (Qc (sMv rfl rfl rfl ?_)))
       refine Qa rfl (OpT_sliceArrH (m := (0 : Int)) rfl rfl rfl rfl rfl arrF184 (by decide) rfl) ?_
       refine Qa rfl (OpT_lenE rfl rfl rfl rfl Try.underlying188) ?_
       refine sMv rfl rfl rfl ?_
       refine Qd (tZ [3, 4, 16, 17, 6, 36, 37, 38] [0, 1, 2] [] rfl rfl rfl rfl ?_)
       refine QC (Tk_unroll 0 ?_)
       refine Qe (Qc (Qa rfl (Qf rfl rfl rfl rfl rfl (QI (a := (0 : Int)) (b := (0 : Int)))) ?_))
       refine Qd (Qe (Qp rfl ?_))
       refine Zv _ rfl ?_
       refine Zx (Qc (Qa rfl (Qf rfl rfl rfl rfl rfl (QG (a := (0 : Int)) (b := (1 : Int)))) ?_))
       refine sMv rfl rfl rfl ?_
       refine Qd (tZ [3, 4, 16, 17] [0, 1] [] rfl rfl rfl rfl ?_)
       refine Tk_round ?_
       refine Qe (Qc (Qa rfl (Qf rfl rfl rfl rfl rfl (QI (a := (1 : Int)) (b := (3 : Int)))) ?_))
       refine Qd (Qe (Ql rfl ?_))
       refine Qt (Qe (QC (Qe (Qc (sMv rfl rfl rfl ?_)))))
       refine Qa rfl (OpT_idxKA (cs := [vU64 spans1.a0.a0, vU64 spans1.a0.a1, vU64 spans1.a1.a0, vU64 spans1.a1.a1, vU64 spans1.a2.a0, vU64 spans1.a2.a1]) (vs := [vU64 spans1.a1.a0, vU64 spans1.a1.a1]) rfl rfl rfl rfl rfl arrF184 tyF183 (by decide) rfl) ?_
       refine Qu rfl (QD rfl rfl rfl tyZ183) fun b5 => ?_
       refine sAs rfl rfl rfl ?_
       refine Qa rfl (Qo (cs' := [vU64 spans1.a1.a0, vU64 spans1.a1.a1]) rfl rfl rfl rfl tyF183 (i := 2) rfl rfl rfl (QF rfl) rfl) ?_
       refine Qd (tZ [3, 4, 16, 17, 6, 5] [0, 1, 2] [] rfl rfl rfl rfl ?_)
       refine Qe (Qe (QU (by kernel_rfl) ?_))
       refine Xn [0, 1, 0, 4, 12, 31, 63, 127, 255, 511, 255, 1279, 4095, 8191] (by kernel_rfl) fun htb => ?_
       refine QW (lo := 0) (hi := 5) htb rfl rfl (by kernel_rfl) (fun c L a w => Sat c ⟨[(3, some (.pointer (some ⟨b2, 0, none⟩))), (4, some (.pointer (some ⟨b3, 0, none⟩))), (16, some (.agg #[vU64 spans1.a0.a0, vU64 spans1.a0.a1, vU64 spans1.a1.a0, vU64 spans1.a1.a1, vU64 spans1.a2.a0, vU64 spans1.a2.a1])), (17, some (vI (1 : Int))), (6, some (.pointer (some ⟨b5, 0, none⟩))), (5, some (vI (1 : Int))), (21, bif L 0 then some (.pointer (some ⟨b5, 0, none⟩)) else none), (22, bif L 1 then some (vU64 spans1.a1.a0) else none), (23, bif L 2 then some (vI (1 : Int)) else none), (24, bif L 3 then some (.pointer (some ⟨b3, 1, none⟩)) else none), (25, bif L 4 then some (vU64 steps1.a1) else none)], [(some (Qm b2 184 [vU64 spans1.a0.a0, vU64 spans1.a0.a1, vU64 spans1.a1.a0, vU64 spans1.a1.a1, vU64 spans1.a2.a0, vU64 spans1.a2.a1]) : Option Res), (some (Qm b3 186 [vU64 steps1.a0, vU64 steps1.a1, vU64 steps1.a2]) : Option Res), (some (Qm b5 183 [vU64 spans1.a1.a0, vU64 spans1.a1.a1]) : Option Res)], []⟩ a w) [([], [1]), ([0], []), ([], [3, 4]), ([2], [4]), ([2, 3], [])] rfl (by kernel_rfl) ?_ (Qb ?_ (Qb ?_ (Qb ?_ (Qb ?_ (Qb ?_ (QB)))))) ?_
       ·intro a w hs
        exact hs.startF [21, 22, 23, 24, 25] [0, 1, 2] [] rfl rfl rfl rfl
       ·intro L a w hs K Q hK
        exact wGo rfl rfl hs (Zp rfl rfl rfl rfl rfl Ya (by decide)) fun a w hs => hK a w (pF hs 6 [0, 1, 2] [] rfl)
       ·intro L a w hs K Q hK
        exact wGo rfl rfl hs (Qj rfl rfl rfl rfl QZ (i := 2) rfl rfl) fun a w hs => hK a w (pF hs 7 [0, 1, 2] [] rfl)
       ·intro L a w hs K Q hK
        exact wGo rfl rfl hs (Qk rfl rfl rfl rfl) fun a w hs => hK a w (pF hs 8 [0, 1, 2] [] rfl)
       ·intro L a w hs K Q hK
        exact wGo rfl rfl hs (Zp rfl rfl rfl rfl rfl arrF186 (by decide)) fun a w hs => hK a w (pF hs 9 [0, 1, 2] [] rfl)
       ·intro L a w hs K Q hK
        exact wGo rfl rfl hs (Qj rfl rfl rfl rfl QZ (i := 1) rfl rfl) fun a w hs => hK a w (pF hs 10 [0, 1, 2] [] rfl)
       ·intro L a w hL hv
        rw [QM hL] at hv
        have hs := hv
        refine gZ hs [3, 4, 16, 17, 6, 5, 22, 25] [0, 1, 2] [] rfl rfl rfl rfl ?_
        clear hs hL
        obtain ⟨hc2, h⟩ := ZK h
        refine Qx htb (by kernel_rfl) rfl rfl (Qf rfl rfl rfl rfl rfl (bin_rem_u64 (a := spans1.a1.a0) (b := steps1.a1) (not_t hc2))) ?_
        refine Qx htb (by kernel_rfl) rfl rfl (Qf rfl rfl rfl rfl rfl (bin_neq_u64 (a := spans1.a1.a0 % steps1.a1) (b := (0 : UInt64)))) ?_
        refine Qx htb (by kernel_rfl) rfl rfl (Qk rfl rfl rfl rfl) ?_
        refine aZ [3, 4, 16, 17, 6, 5, 28] [0, 1, 2] [] rfl rfl rfl rfl ?_
        rcases bC ((spans1.a1.a0 % steps1.a1) != (0 : UInt64)) with hg4 | hg4
        ·replace h := br_t hg4 h
         refine QW (lo := 8) (hi := 12) htb rfl rfl (by kernel_rfl) (fun c L a w => Sat c ⟨[(3, some (.pointer (some ⟨b2, 0, none⟩))), (4, some (.pointer (some ⟨b3, 0, none⟩))), (16, some (.agg #[vU64 spans1.a0.a0, vU64 spans1.a0.a1, vU64 spans1.a1.a0, vU64 spans1.a1.a1, vU64 spans1.a2.a0, vU64 spans1.a2.a1])), (17, some (vI (1 : Int))), (6, some (.pointer (some ⟨b5, 0, none⟩))), (5, some (vI (1 : Int))), (28, some (vB ((spans1.a1.a0 % steps1.a1) != (0 : UInt64)))), (29, bif L 8 then some (undef) else none), (30, bif L 9 then some (undef) else none), (31, bif L 10 then some (undef) else none), (32, bif L 11 then some (undef) else none)], [(some (Qm b2 184 [vU64 spans1.a0.a0, vU64 spans1.a0.a1, vU64 spans1.a1.a0, vU64 spans1.a1.a1, vU64 spans1.a2.a0, vU64 spans1.a2.a1]) : Option Res), (some (Qm b3 186 [vU64 steps1.a0, vU64 steps1.a1, vU64 steps1.a2]) : Option Res), (some (Qm b5 183 [vU64 spans1.a1.a0, vU64 spans1.a1.a1]) : Option Res)], []⟩ a w) [([], [9]), ([8], []), ([], [11]), ([10], [])] rfl (by kernel_rfl) ?_ (Qb ?_ (Qb ?_ (Qb ?_ (Qb ?_ (QB))))) ?_
         ·intro a w hs
          exact hs.startF [29, 30, 31, 32] [0, 1, 2] [] rfl rfl rfl rfl
         ·intro L a w hs K Q hK
          exact QA rfl rfl rfl hs (cgb hg4) rfl rfl fun a w hs => hK a w (pF hs 7 [0, 1, 2] [] rfl)
         ·intro L a w hs K Q hK
          exact QA rfl rfl rfl hs (cgb hg4) rfl rfl fun a w hs => hK a w (pF hs 8 [0, 1, 2] [] rfl)
         ·intro L a w hs K Q hK
          exact QA rfl rfl rfl hs (cgb hg4) rfl rfl fun a w hs => hK a w (pF hs 9 [0, 1, 2] [] rfl)
         ·intro L a w hs K Q hK
          exact QA rfl rfl rfl hs (cgb hg4) rfl rfl fun a w hs => hK a w (pF hs 10 [0, 1, 2] [] rfl)
         ·intro L a w hL hv
          rw [QM hL] at hv
          have hs := hv
          refine gZ hs [3, 4, 16, 17, 6, 5, 28, 30, 32] [0, 1, 2] [] rfl rfl rfl rfl ?_
          clear hs hL
          refine KR htb (by kernel_rfl) rfl rfl rfl (cgb hg4) rfl rfl ?_
          refine Qx htb (by kernel_rfl) rfl rfl (Qr rfl rfl rfl (cgb hg4) rfl) ?_
          refine Zh rfl ?_
          refine tZ [3, 4, 16, 17, 6, 5, 34] [0, 1, 2] [] rfl rfl rfl rfl ?_
          refine Ql rfl ?_
          refine Qe (Qc (sAs rfl rfl rfl ?_))
          refine Qd (tZ [2] [] [] rfl rfl rfl rfl ?_)
          obtain rfl := Option.some.inj h
          exact Qn rfl rfl (resA (vs := [vI (2 : Int)]) rfl ⟨rfl, trivial⟩) [] [] rfl rfl rfl ⟨rfl, rfl, rfl⟩
        ·replace h := br_f hg4 h
         refine QW (lo := 8) (hi := 12) htb rfl rfl (by kernel_rfl) (fun c L a w => Sat c ⟨[(3, some (.pointer (some ⟨b2, 0, none⟩))), (4, some (.pointer (some ⟨b3, 0, none⟩))), (16, some (.agg #[vU64 spans1.a0.a0, vU64 spans1.a0.a1, vU64 spans1.a1.a0, vU64 spans1.a1.a1, vU64 spans1.a2.a0, vU64 spans1.a2.a1])), (17, some (vI (1 : Int))), (6, some (.pointer (some ⟨b5, 0, none⟩))), (5, some (vI (1 : Int))), (28, some (vB ((spans1.a1.a0 % steps1.a1) != (0 : UInt64)))), (29, bif L 8 then some (.pointer (some ⟨b5, 0, none⟩)) else none), (30, bif L 9 then some (vU64 spans1.a1.a0) else none), (31, bif L 10 then some (.pointer (some ⟨b5, 1, none⟩)) else none), (32, bif L 11 then some (vU64 spans1.a1.a1) else none)], [(some (Qm b2 184 [vU64 spans1.a0.a0, vU64 spans1.a0.a1, vU64 spans1.a1.a0, vU64 spans1.a1.a1, vU64 spans1.a2.a0, vU64 spans1.a2.a1]) : Option Res), (some (Qm b3 186 [vU64 steps1.a0, vU64 steps1.a1, vU64 steps1.a2]) : Option Res), (some (Qm b5 183 [vU64 spans1.a1.a0, vU64 spans1.a1.a1]) : Option Res)], []⟩ a w) [([], [9]), ([8], []), ([], [11]), ([10], [])] rfl (by kernel_rfl) ?_ (Qb ?_ (Qb ?_ (Qb ?_ (Qb ?_ (QB))))) ?_
         ·intro a w hs
          exact hs.startF [29, 30, 31, 32] [0, 1, 2] [] rfl rfl rfl rfl
         ·intro L a w hs K Q hK
          exact wYs rfl rfl rfl hs (cgb hg4) (Zp rfl rfl rfl rfl rfl Ya (by decide)) fun a w hs => hK a w (pF hs 7 [0, 1, 2] [] rfl)
         ·intro L a w hs K Q hK
          exact wYs rfl rfl rfl hs (cgb hg4) (Qj rfl rfl rfl rfl QZ (i := 2) rfl rfl) fun a w hs => hK a w (pF hs 8 [0, 1, 2] [] rfl)
         ·intro L a w hs K Q hK
          exact wYs rfl rfl rfl hs (cgb hg4) (Zp rfl rfl rfl rfl rfl Ya (by decide)) fun a w hs => hK a w (pF hs 9 [0, 1, 2] [] rfl)
         ·intro L a w hs K Q hK
          exact wYs rfl rfl rfl hs (cgb hg4) (Qj rfl rfl rfl rfl QZ (i := 2) rfl rfl) fun a w hs => hK a w (pF hs 10 [0, 1, 2] [] rfl)
         ·intro L a w hL hv
          rw [QM hL] at hv
          have hs := hv
          refine gZ hs [3, 4, 16, 17, 6, 5, 28, 30, 32] [0, 1, 2] [] rfl rfl rfl rfl ?_
          clear hs hL
          obtain ⟨beyond2, hx5, h⟩ := ob_e h
          refine Xx htb (by kernel_rfl) rfl rfl rfl (cgb hg4) (Qv (w_layout_beyond hx5) [] [] rfl rfl rfl rfl rfl callee111 rfl rfl rfl rfl) ?_
          rintro _ ⟨_, _, _, ⟨rfl, rfl, rfl⟩, rfl⟩
          refine Qx htb (by kernel_rfl) rfl rfl (Qw rfl rfl rfl (cgb hg4) rfl) ?_
          refine Zh rfl ?_
          refine tZ [3, 4, 16, 17, 6, 5, 34] [0, 1, 2] [] rfl rfl rfl rfl ?_
          rcases bC (beyond2) with hg5 | hg5
          ·replace h := br_t hg5 h
           refine Ql (cgb hg5) ?_
           refine Qe (Qc (sAs rfl rfl rfl ?_))
           refine Qd (tZ [2] [] [] rfl rfl rfl rfl ?_)
           obtain rfl := Option.some.inj h
           exact Qn rfl rfl (resA (vs := [vI (2 : Int)]) rfl ⟨rfl, trivial⟩) [] [] rfl rfl rfl ⟨rfl, rfl, rfl⟩
          ·replace h := br_f hg5 h
           refine Qp (cgb hg5) ?_
           refine Qt (Qe (Qc (sMv rfl rfl rfl ?_)))
           refine Qa rfl (OpT_sliceArrH (m := (1 : Int)) rfl rfl rfl rfl rfl arrF184 (by decide) rfl) ?_
           refine Qa rfl (OpT_lenE rfl rfl rfl rfl Try.underlying188) ?_
           refine sMv rfl rfl rfl ?_
           refine Qd (tZ [3, 4, 16, 17, 6, 36, 37, 38] [0, 1, 2] [] rfl rfl rfl rfl ?_)
           refine QC (Tk_unroll 1 ?_)
           refine Qe (Qc (Qa rfl (Qf rfl rfl rfl rfl rfl (QI (a := (0 : Int)) (b := (1 : Int)))) ?_))
           refine Qd (Qe (Ql rfl ?_))
           refine Qt (Qe (QC (Qe (Qc (Qa rfl (OpT_idxSl (m := (0 : Int)) rfl rfl rfl rfl rfl slF188 (by decide)) ?_)))))
           refine Qa rfl (Qy (vs := [vU64 spans1.a0.a0, vU64 spans1.a0.a1]) rfl rfl rfl rfl tyF183 (i := 0) rfl rfl rfl) ?_
           refine Qu rfl (QD rfl rfl rfl tyZ183) fun b6 => ?_
           refine Qa rfl (Qo (cs' := [vU64 spans1.a0.a0, vU64 spans1.a0.a1]) rfl rfl rfl rfl tyF183 (i := 3) rfl rfl rfl (QF rfl) rfl) ?_
           refine Qd (tZ [3, 4, 16, 17, 6, 36, 37, 38, 8] [0, 1, 2, 3] [] rfl rfl rfl rfl ?_)
           refine Qe (Qc (Qa rfl (Zp rfl rfl rfl rfl rfl Ya (by decide)) ?_))
           refine Qa rfl (Qj rfl rfl rfl rfl QZ (i := 2) rfl rfl) ?_
           refine Qa rfl (Zp rfl rfl rfl rfl rfl Ya (by decide)) ?_
           refine Qa rfl (Qj rfl rfl rfl rfl QZ (i := 2) rfl rfl) ?_
           refine Qa rfl (Zp rfl rfl rfl rfl rfl Ya (by decide)) ?_
           refine Qa rfl (Qj rfl rfl rfl rfl QZ (i := 3) rfl rfl) ?_
           refine Qa rfl (Zp rfl rfl rfl rfl rfl Ya (by decide)) ?_
           refine Qa rfl (Qj rfl rfl rfl rfl QZ (i := 3) rfl rfl) ?_
           obtain ⟨common1, hx6, h⟩ := ob_e h
           refine Qs rfl (Qv (w_layout_common hx6) [] [] rfl rfl rfl rfl rfl callee112 rfl rfl rfl rfl) ?_
           rintro _ ⟨_, _, _, ⟨rfl, rfl, rfl⟩, rfl⟩
           refine Qd (tZ [3, 4, 16, 17, 6, 36, 37, 38, 50] [0, 1, 2] [] rfl rfl rfl rfl ?_)
           rcases bC (common1) with hg6 | hg6
           ·replace h := br_t hg6 h
            refine Ql (cgb hg6) ?_
            refine Qe (Qc (sAs rfl rfl rfl ?_))
            refine Qd (tZ [2] [] [] rfl rfl rfl rfl ?_)
            obtain rfl := Option.some.inj h
            exact Qn rfl rfl (resA (vs := [vI (2 : Int)]) rfl ⟨rfl, trivial⟩) [] [] rfl rfl rfl ⟨rfl, rfl, rfl⟩
           ·replace h := br_f hg6 h
            refine Qp (cgb hg6) ?_
            refine Qt (Zx (Qc (Qa rfl (Qf rfl rfl rfl rfl rfl (QG (a := (0 : Int)) (b := (1 : Int)))) ?_)))
            refine sMv rfl rfl rfl ?_
            refine Qd (tZ [3, 4, 16, 17, 6, 36, 37, 38] [0, 1, 2] [] rfl rfl rfl rfl ?_)
            refine Tk_round ?_
            refine Qe (Qc (Qa rfl (Qf rfl rfl rfl rfl rfl (QI (a := (1 : Int)) (b := (1 : Int)))) ?_))
            refine Qd (Qe (Qp rfl ?_))
            refine Zv _ rfl ?_
            refine Zx (Qc (Qa rfl (Qf rfl rfl rfl rfl rfl (QG (a := (1 : Int)) (b := (1 : Int)))) ?_))
            refine sMv rfl rfl rfl ?_
            refine Qd (tZ [3, 4, 16, 17] [0, 1] [] rfl rfl rfl rfl ?_)
            refine Tk_round ?_
            refine Qe (Qc (Qa rfl (Qf rfl rfl rfl rfl rfl (QI (a := (2 : Int)) (b := (3 : Int)))) ?_))
            refine Qd (Qe (Ql rfl ?_))
            refine Qt (Qe (QC (Qe (Qc (sMv rfl rfl rfl ?_)))))
            refine Qa rfl (OpT_idxKA (cs := [vU64 spans1.a0.a0, vU64 spans1.a0.a1, vU64 spans1.a1.a0, vU64 spans1.a1.a1, vU64 spans1.a2.a0, vU64 spans1.a2.a1]) (vs := [vU64 spans1.a2.a0, vU64 spans1.a2.a1]) rfl rfl rfl rfl rfl arrF184 tyF183 (by decide) rfl) ?_
            refine Qu rfl (QD rfl rfl rfl tyZ183) fun b7 => ?_
            refine sAs rfl rfl rfl ?_
            refine Qa rfl (Qo (cs' := [vU64 spans1.a2.a0, vU64 spans1.a2.a1]) rfl rfl rfl rfl tyF183 (i := 2) rfl rfl rfl (QF rfl) rfl) ?_
            refine Qd (tZ [3, 4, 16, 17, 6, 5] [0, 1, 2] [] rfl rfl rfl rfl ?_)
            refine Qe (Qe (QU (by kernel_rfl) ?_))
            refine Xn [0, 1, 0, 4, 12, 31, 63, 127, 255, 511, 255, 1279, 4095, 8191] (by kernel_rfl) fun htb => ?_
            refine QW (lo := 0) (hi := 5) htb rfl rfl (by kernel_rfl) (fun c L a w => Sat c ⟨[(3, some (.pointer (some ⟨b2, 0, none⟩))), (4, some (.pointer (some ⟨b3, 0, none⟩))), (16, some (.agg #[vU64 spans1.a0.a0, vU64 spans1.a0.a1, vU64 spans1.a1.a0, vU64 spans1.a1.a1, vU64 spans1.a2.a0, vU64 spans1.a2.a1])), (17, some (vI (2 : Int))), (6, some (.pointer (some ⟨b7, 0, none⟩))), (5, some (vI (2 : Int))), (21, bif L 0 then some (.pointer (some ⟨b7, 0, none⟩)) else none), (22, bif L 1 then some (vU64 spans1.a2.a0) else none), (23, bif L 2 then some (vI (2 : Int)) else none), (24, bif L 3 then some (.pointer (some ⟨b3, 2, none⟩)) else none), (25, bif L 4 then some (vU64 steps1.a2) else none)], [(some (Qm b2 184 [vU64 spans1.a0.a0, vU64 spans1.a0.a1, vU64 spans1.a1.a0, vU64 spans1.a1.a1, vU64 spans1.a2.a0, vU64 spans1.a2.a1]) : Option Res), (some (Qm b3 186 [vU64 steps1.a0, vU64 steps1.a1, vU64 steps1.a2]) : Option Res), (some (Qm b7 183 [vU64 spans1.a2.a0, vU64 spans1.a2.a1]) : Option Res)], []⟩ a w) [([], [1]), ([0], []), ([], [3, 4]), ([2], [4]), ([2, 3], [])] rfl (by kernel_rfl) ?_ (Qb ?_ (Qb ?_ (Qb ?_ (Qb ?_ (Qb ?_ (QB)))))) ?_
            ·intro a w hs
             exact hs.startF [21, 22, 23, 24, 25] [0, 1, 2] [] rfl rfl rfl rfl
            ·intro L a w hs K Q hK
             exact wGo rfl rfl hs (Zp rfl rfl rfl rfl rfl Ya (by decide)) fun a w hs => hK a w (pF hs 6 [0, 1, 2] [] rfl)
            ·intro L a w hs K Q hK
             exact wGo rfl rfl hs (Qj rfl rfl rfl rfl QZ (i := 2) rfl rfl) fun a w hs => hK a w (pF hs 7 [0, 1, 2] [] rfl)
            ·intro L a w hs K Q hK
             exact wGo rfl rfl hs (Qk rfl rfl rfl rfl) fun a w hs => hK a w (pF hs 8 [0, 1, 2] [] rfl)
            ·intro L a w hs K Q hK
             exact wGo rfl rfl hs (Zp rfl rfl rfl rfl rfl arrF186 (by decide)) fun a w hs => hK a w (pF hs 9 [0, 1, 2] [] rfl)
            ·intro L a w hs K Q hK
             exact wGo rfl rfl hs (Qj rfl rfl rfl rfl QZ (i := 1) rfl rfl) fun a w hs => hK a w (pF hs 10 [0, 1, 2] [] rfl)
            ·intro L a w hL hv
             rw [QM hL] at hv
             have hs := hv
             refine gZ hs [3, 4, 16, 17, 6, 5, 22, 25] [0, 1, 2] [] rfl rfl rfl rfl ?_
             clear hs hL
             obtain ⟨hc3, h⟩ := ZK h
             refine Qx htb (by kernel_rfl) rfl rfl (Qf rfl rfl rfl rfl rfl (bin_rem_u64 (a := spans1.a2.a0) (b := steps1.a2) (not_t hc3))) ?_
             refine Qx htb (by kernel_rfl) rfl rfl (Qf rfl rfl rfl rfl rfl (bin_neq_u64 (a := spans1.a2.a0 % steps1.a2) (b := (0 : UInt64)))) ?_
             refine Qx htb (by kernel_rfl) rfl rfl (Qk rfl rfl rfl rfl) ?_
             refine aZ [3, 4, 16, 17, 6, 5, 28] [0, 1, 2] [] rfl rfl rfl rfl ?_
             rcases bC ((spans1.a2.a0 % steps1.a2) != (0 : UInt64)) with hg7 | hg7
             ·replace h := br_t hg7 h
              refine QW (lo := 8) (hi := 12) htb rfl rfl (by kernel_rfl) (fun c L a w => Sat c ⟨[(3, some (.pointer (some ⟨b2, 0, none⟩))), (4, some (.pointer (some ⟨b3, 0, none⟩))), (16, some (.agg #[vU64 spans1.a0.a0, vU64 spans1.a0.a1, vU64 spans1.a1.a0, vU64 spans1.a1.a1, vU64 spans1.a2.a0, vU64 spans1.a2.a1])), (17, some (vI (2 : Int))), (6, some (.pointer (some ⟨b7, 0, none⟩))), (5, some (vI (2 : Int))), (28, some (vB ((spans1.a2.a0 % steps1.a2) != (0 : UInt64)))), (29, bif L 8 then some (undef) else none), (30, bif L 9 then some (undef) else none), (31, bif L 10 then some (undef) else none), (32, bif L 11 then some (undef) else none)], [(some (Qm b2 184 [vU64 spans1.a0.a0, vU64 spans1.a0.a1, vU64 spans1.a1.a0, vU64 spans1.a1.a1, vU64 spans1.a2.a0, vU64 spans1.a2.a1]) : Option Res), (some (Qm b3 186 [vU64 steps1.a0, vU64 steps1.a1, vU64 steps1.a2]) : Option Res), (some (Qm b7 183 [vU64 spans1.a2.a0, vU64 spans1.a2.a1]) : Option Res)], []⟩ a w) [([], [9]), ([8], []), ([], [11]), ([10], [])] rfl (by kernel_rfl) ?_ (Qb ?_ (Qb ?_ (Qb ?_ (Qb ?_ (QB))))) ?_
              ·intro a w hs
               exact hs.startF [29, 30, 31, 32] [0, 1, 2] [] rfl rfl rfl rfl
              ·intro L a w hs K Q hK
               exact QA rfl rfl rfl hs (cgb hg7) rfl rfl fun a w hs => hK a w (pF hs 7 [0, 1, 2] [] rfl)
              ·intro L a w hs K Q hK
               exact QA rfl rfl rfl hs (cgb hg7) rfl rfl fun a w hs => hK a w (pF hs 8 [0, 1, 2] [] rfl)
              ·intro L a w hs K Q hK
               exact QA rfl rfl rfl hs (cgb hg7) rfl rfl fun a w hs => hK a w (pF hs 9 [0, 1, 2] [] rfl)
              ·intro L a w hs K Q hK
               exact QA rfl rfl rfl hs (cgb hg7) rfl rfl fun a w hs => hK a w (pF hs 10 [0, 1, 2] [] rfl)
              ·intro L a w hL hv
               rw [QM hL] at hv
               have hs := hv
               refine gZ hs [3, 4, 16, 17, 6, 5, 28, 30, 32] [0, 1, 2] [] rfl rfl rfl rfl ?_
               clear hs hL
               refine KR htb (by kernel_rfl) rfl rfl rfl (cgb hg7) rfl rfl ?_
               refine Qx htb (by kernel_rfl) rfl rfl (Qr rfl rfl rfl (cgb hg7) rfl) ?_
               refine Zh rfl ?_
               refine tZ [3, 4, 16, 17, 6, 5, 34] [0, 1, 2] [] rfl rfl rfl rfl ?_
               refine Ql rfl ?_
               refine Qe (Qc (sAs rfl rfl rfl ?_))
               refine Qd (tZ [2] [] [] rfl rfl rfl rfl ?_)
               obtain rfl := Option.some.inj h
               exact Qn rfl rfl (resA (vs := [vI (2 : Int)]) rfl ⟨rfl, trivial⟩) [] [] rfl rfl rfl ⟨rfl, rfl, rfl⟩
             ·replace h := br_f hg7 h
              refine QW (lo := 8) (hi := 12) htb rfl rfl (by kernel_rfl) (fun c L a w => Sat c ⟨[(3, some (.pointer (some ⟨b2, 0, none⟩))), (4, some (.pointer (some ⟨b3, 0, none⟩))), (16, some (.agg #[vU64 spans1.a0.a0, vU64 spans1.a0.a1, vU64 spans1.a1.a0, vU64 spans1.a1.a1, vU64 spans1.a2.a0, vU64 spans1.a2.a1])), (17, some (vI (2 : Int))), (6, some (.pointer (some ⟨b7, 0, none⟩))), (5, some (vI (2 : Int))), (28, some (vB ((spans1.a2.a0 % steps1.a2) != (0 : UInt64)))), (29, bif L 8 then some (.pointer (some ⟨b7, 0, none⟩)) else none), (30, bif L 9 then some (vU64 spans1.a2.a0) else none), (31, bif L 10 then some (.pointer (some ⟨b7, 1, none⟩)) else none), (32, bif L 11 then some (vU64 spans1.a2.a1) else none)], [(some (Qm b2 184 [vU64 spans1.a0.a0, vU64 spans1.a0.a1, vU64 spans1.a1.a0, vU64 spans1.a1.a1, vU64 spans1.a2.a0, vU64 spans1.a2.a1]) : Option Res), (some (Qm b3 186 [vU64 steps1.a0, vU64 steps1.a1, vU64 steps1.a2]) : Option Res), (some (Qm b7 183 [vU64 spans1.a2.a0, vU64 spans1.a2.a1]) : Option Res)], []⟩ a w) [([], [9]), ([8], []), ([], [11]), ([10], [])] rfl (by kernel_rfl) ?_ (Qb ?_ (Qb ?_ (Qb ?_ (Qb ?_ (QB))))) ?_
              ·intro a w hs
               exact hs.startF [29, 30, 31, 32] [0, 1, 2] [] rfl rfl rfl rfl
              ·intro L a w hs K Q hK
               exact wYs rfl rfl rfl hs (cgb hg7) (Zp rfl rfl rfl rfl rfl Ya (by decide)) fun a w hs => hK a w (pF hs 7 [0, 1, 2] [] rfl)
              ·intro L a w hs K Q hK
               exact wYs rfl rfl rfl hs (cgb hg7) (Qj rfl rfl rfl rfl QZ (i := 2) rfl rfl) fun a w hs => hK a w (pF hs 8 [0, 1, 2] [] rfl)
              ·intro L a w hs K Q hK
               exact wYs rfl rfl rfl hs (cgb hg7) (Zp rfl rfl rfl rfl rfl Ya (by decide)) fun a w hs => hK a w (pF hs 9 [0, 1, 2] [] rfl)
              ·intro L a w hs K Q hK
               exact wYs rfl rfl rfl hs (cgb hg7) (Qj rfl rfl rfl rfl QZ (i := 2) rfl rfl) fun a w hs => hK a w (pF hs 10 [0, 1, 2] [] rfl)
              ·intro L a w hL hv
               rw [QM hL] at hv
               have hs := hv
               refine gZ hs [3, 4, 16, 17, 6, 5, 28, 30, 32] [0, 1, 2] [] rfl rfl rfl rfl ?_
               clear hs hL
               obtain ⟨beyond3, hx7, h⟩ := ob_e h
               refine Xx htb (by kernel_rfl) rfl rfl rfl (cgb hg7) (Qv (w_layout_beyond hx7) [] [] rfl rfl rfl rfl rfl callee111 rfl rfl rfl rfl) ?_
               rintro _ ⟨_, _, _, ⟨rfl, rfl, rfl⟩, rfl⟩
               refine Qx htb (by kernel_rfl) rfl rfl (Qw rfl rfl rfl (cgb hg7) rfl) ?_
               refine Zh rfl ?_
               refine tZ [3, 4, 16, 17, 6, 5, 34] [0, 1, 2] [] rfl rfl rfl rfl ?_
               rcases bC (beyond3) with hg8 | hg8
               ·replace h := br_t hg8 h
                refine Ql (cgb hg8) ?_
                refine Qe (Qc (sAs rfl rfl rfl ?_))
                refine Qd (tZ [2] [] [] rfl rfl rfl rfl ?_)
                obtain rfl := Option.some.inj h
                exact Qn rfl rfl (resA (vs := [vI (2 : Int)]) rfl ⟨rfl, trivial⟩) [] [] rfl rfl rfl ⟨rfl, rfl, rfl⟩
               ·replace h := br_f hg8 h
                refine Qp (cgb hg8) ?_
                refine Qt (Qe (Qc (sMv rfl rfl rfl ?_)))
                refine Qa rfl (OpT_sliceArrH (m := (2 : Int)) rfl rfl rfl rfl rfl arrF184 (by decide) rfl) ?_
                refine Qa rfl (OpT_lenE rfl rfl rfl rfl Try.underlying188) ?_
                refine sMv rfl rfl rfl ?_
                refine Qd (tZ [3, 4, 16, 17, 6, 36, 37, 38] [0, 1, 2] [] rfl rfl rfl rfl ?_)
                refine QC (Tk_unroll 2 ?_)
                refine Qe (Qc (Qa rfl (Qf rfl rfl rfl rfl rfl (QI (a := (0 : Int)) (b := (2 : Int)))) ?_))
                refine Qd (Qe (Ql rfl ?_))
                refine Qt (Qe (QC (Qe (Qc (Qa rfl (OpT_idxSl (m := (0 : Int)) rfl rfl rfl rfl rfl slF188 (by decide)) ?_)))))
                refine Qa rfl (Qy (vs := [vU64 spans1.a0.a0, vU64 spans1.a0.a1]) rfl rfl rfl rfl tyF183 (i := 0) rfl rfl rfl) ?_
                refine Qu rfl (QD rfl rfl rfl tyZ183) fun b8 => ?_
                refine Qa rfl (Qo (cs' := [vU64 spans1.a0.a0, vU64 spans1.a0.a1]) rfl rfl rfl rfl tyF183 (i := 3) rfl rfl rfl (QF rfl) rfl) ?_
                refine Qd (tZ [3, 4, 16, 17, 6, 36, 37, 38, 8] [0, 1, 2, 3] [] rfl rfl rfl rfl ?_)
                refine Qe (Qc (Qa rfl (Zp rfl rfl rfl rfl rfl Ya (by decide)) ?_))
                refine Qa rfl (Qj rfl rfl rfl rfl QZ (i := 2) rfl rfl) ?_
                refine Qa rfl (Zp rfl rfl rfl rfl rfl Ya (by decide)) ?_
                refine Qa rfl (Qj rfl rfl rfl rfl QZ (i := 2) rfl rfl) ?_
                refine Qa rfl (Zp rfl rfl rfl rfl rfl Ya (by decide)) ?_
                refine Qa rfl (Qj rfl rfl rfl rfl QZ (i := 3) rfl rfl) ?_
                refine Qa rfl (Zp rfl rfl rfl rfl rfl Ya (by decide)) ?_
                refine Qa rfl (Qj rfl rfl rfl rfl QZ (i := 3) rfl rfl) ?_
                obtain ⟨common2, hx8, h⟩ := ob_e h
                refine Qs rfl (Qv (w_layout_common hx8) [] [] rfl rfl rfl rfl rfl callee112 rfl rfl rfl rfl) ?_
                rintro _ ⟨_, _, _, ⟨rfl, rfl, rfl⟩, rfl⟩
                refine Qd (tZ [3, 4, 16, 17, 6, 36, 37, 38, 50] [0, 1, 2] [] rfl rfl rfl rfl ?_)
                rcases bC (common2) with hg9 | hg9
                ·replace h := br_t hg9 h
                 refine Ql (cgb hg9) ?_
                 refine Qe (Qc (sAs rfl rfl rfl ?_))
                 refine Qd (tZ [2] [] [] rfl rfl rfl rfl ?_)
                 obtain rfl := Option.some.inj h
                 exact Qn rfl rfl (resA (vs := [vI (2 : Int)]) rfl ⟨rfl, trivial⟩) [] [] rfl rfl rfl ⟨rfl, rfl, rfl⟩
                ·replace h := br_f hg9 h
                 refine Qp (cgb hg9) ?_
                 refine Qt (Zx (Qc (Qa rfl (Qf rfl rfl rfl rfl rfl (QG (a := (0 : Int)) (b := (1 : Int)))) ?_)))
                 refine sMv rfl rfl rfl ?_
                 refine Qd (tZ [3, 4, 16, 17, 6, 36, 37, 38] [0, 1, 2] [] rfl rfl rfl rfl ?_)
                 refine Tk_round ?_
                 refine Qe (Qc (Qa rfl (Qf rfl rfl rfl rfl rfl (QI (a := (1 : Int)) (b := (2 : Int)))) ?_))
                 refine Qd (Qe (Ql rfl ?_))
                 refine Qt (Qe (QC (Qe (Qc (Qa rfl (OpT_idxSl (m := (1 : Int)) rfl rfl rfl rfl rfl slF188 (by decide)) ?_)))))
                 refine Qa rfl (Qy (vs := [vU64 spans1.a1.a0, vU64 spans1.a1.a1]) rfl rfl rfl rfl tyF183 (i := 0) rfl rfl rfl) ?_
                 refine Qu rfl (QD rfl rfl rfl tyZ183) fun b9 => ?_
                 refine Qa rfl (Qo (cs' := [vU64 spans1.a1.a0, vU64 spans1.a1.a1]) rfl rfl rfl rfl tyF183 (i := 3) rfl rfl rfl (QF rfl) rfl) ?_
                 refine Qd (tZ [3, 4, 16, 17, 6, 36, 37, 38, 8] [0, 1, 2, 3] [] rfl rfl rfl rfl ?_)
                 refine Qe (Qc (Qa rfl (Zp rfl rfl rfl rfl rfl Ya (by decide)) ?_))
                 refine Qa rfl (Qj rfl rfl rfl rfl QZ (i := 2) rfl rfl) ?_
                 refine Qa rfl (Zp rfl rfl rfl rfl rfl Ya (by decide)) ?_
                 refine Qa rfl (Qj rfl rfl rfl rfl QZ (i := 2) rfl rfl) ?_
                 refine Qa rfl (Zp rfl rfl rfl rfl rfl Ya (by decide)) ?_
                 refine Qa rfl (Qj rfl rfl rfl rfl QZ (i := 3) rfl rfl) ?_
                 refine Qa rfl (Zp rfl rfl rfl rfl rfl Ya (by decide)) ?_
                 refine Qa rfl (Qj rfl rfl rfl rfl QZ (i := 3) rfl rfl) ?_
                 obtain ⟨common3, hx9, h⟩ := ob_e h
                 refine Qs rfl (Qv (w_layout_common hx9) [] [] rfl rfl rfl rfl rfl callee112 rfl rfl rfl rfl) ?_
                 rintro _ ⟨_, _, _, ⟨rfl, rfl, rfl⟩, rfl⟩
                 refine Qd (tZ [3, 4, 16, 17, 6, 36, 37, 38, 50] [0, 1, 2] [] rfl rfl rfl rfl ?_)
                 rcases bC (common3) with hg10 | hg10
                 ·replace h := br_t hg10 h
                  refine Ql (cgb hg10) ?_
                  refine Qe (Qc (sAs rfl rfl rfl ?_))
                  refine Qd (tZ [2] [] [] rfl rfl rfl rfl ?_)
                  obtain rfl := Option.some.inj h
                  exact Qn rfl rfl (resA (vs := [vI (2 : Int)]) rfl ⟨rfl, trivial⟩) [] [] rfl rfl rfl ⟨rfl, rfl, rfl⟩
                 ·replace h := br_f hg10 h
                  refine Qp (cgb hg10) ?_
                  refine Qt (Zx (Qc (Qa rfl (Qf rfl rfl rfl rfl rfl (QG (a := (1 : Int)) (b := (1 : Int)))) ?_)))
                  refine sMv rfl rfl rfl ?_
                  refine Qd (tZ [3, 4, 16, 17, 6, 36, 37, 38] [0, 1, 2] [] rfl rfl rfl rfl ?_)
                  refine Tk_round ?_
                  refine Qe (Qc (Qa rfl (Qf rfl rfl rfl rfl rfl (QI (a := (2 : Int)) (b := (2 : Int)))) ?_))
                  refine Qd (Qe (Qp rfl ?_))
                  refine Zv _ rfl ?_
                  refine Zx (Qc (Qa rfl (Qf rfl rfl rfl rfl rfl (QG (a := (2 : Int)) (b := (1 : Int)))) ?_))
                  refine sMv rfl rfl rfl ?_
                  refine Qd (tZ [3, 4, 16, 17] [0, 1] [] rfl rfl rfl rfl ?_)
                  refine Tk_round ?_
                  refine Qe (Qc (Qa rfl (Qf rfl rfl rfl rfl rfl (QI (a := (3 : Int)) (b := (3 : Int)))) ?_))
                  refine Qd (Qe (Qp rfl ?_))
                  refine Zv _ rfl ?_
                  refine Qe (Qc (sAs rfl rfl rfl ?_))
                  refine Qd (tZ [2] [] [] rfl rfl rfl rfl ?_)
                  obtain rfl := Option.some.inj h
                  exact Qn rfl rfl (resA (vs := [vI (0 : Int)]) rfl ⟨rfl, trivial⟩) [] [] rfl rfl rfl ⟨rfl, rfl, rfl⟩

set_option maxRecDepth 100000 in
set_option maxHeartbeats 4000000 in
theorem w_walk_refuse {m : gmem_Mem} {rp1 : Rings} {packed : Bool} {b_m : Nat} {vm1 : Value} {vm2 : Value} {vsm1 : List Value} {r : Int} (h : KF m rp1 packed = some r) :
  Ctr Try.prog 40 #[.pointer (some ⟨b_m, 0, none⟩), .agg #[vB rp1.Packed, vI rp1.Size, vU64 rp1.Desc, vU64 rp1.Driver, vU64 rp1.Device], vB packed] [(Qm b_m 113 [vm1, vm2]), (QV u8S true vm2 vsm1 m.b none)] [Fact.sl Qz vm1 m.l]
   (fun rv own shr => rv = vI r ∧ own = [(Qm b_m 113 [vm1, vm2]), (QV u8S true vm2 vsm1 m.b none)] ∧ shr = []) := by
 unfold KF at h
 refine Ctr.mk (args := [.pointer (some ⟨b_m, 0, none⟩), .agg #[vB rp1.Packed, vI rp1.Size, vU64 rp1.Desc, vU64 rp1.Driver, vU64 rp1.Device], vB packed]) Try.func40 rfl rfl (fun R0 w0 B => ?_)
 refine Qe (Qc (Qu rfl (ZA rfl rfl rfl rfl) fun b1 => ?_))
 refine sAs rfl rfl rfl ?_
 refine Qd (tZ [0, 2, 4] [0, 1, 2] [0] rfl rfl rfl rfl ?_)
 refine Qe (Qe (Qc (sMv rfl rfl rfl ?_)))
 obtain ⟨YQ, hx1, h⟩ := ob_e h
 refine Qs rfl (QJ [3, 4, 2, 5] (Yg hx1) [0, 1] [0] rfl rfl rfl rfl rfl callee82 rfl rfl rfl rfl rfl) ?_
 rintro _ ⟨_, _, _, ⟨v1, rfl, rfl, rfl⟩, rfl⟩
 refine sMv rfl rfl rfl ?_
 refine Qa rfl (Qq rfl rfl rfl rfl rfl) ?_
 refine Qa rfl (Qq rfl rfl rfl rfl rfl) ?_
 refine sAs rfl rfl rfl ?_
 refine sAs rfl rfl rfl ?_
 refine Qd (tZ [2, 4, 8] [0, 1, 2] [0] rfl rfl rfl rfl ?_)
 refine Qe (Qc (sMv rfl rfl rfl ?_))
 refine Qa rfl (Qf rfl rfl rfl rfl rfl (QL (a := YQ.2) (b := (0 : Int)))) ?_
 refine Qd (tZ [2, 4, 8, 16] [0, 1, 2] [0] rfl rfl rfl rfl ?_)
 rcases bC (YQ.2 != (0 : Int)) with hg1 | hg1
 ·replace h := br_t hg1 h
  refine Ql (cgb hg1) ?_
  refine Qe (Qc (sMv rfl rfl rfl ?_))
  refine sAs rfl rfl rfl ?_
  refine Qd (tZ [6] [0, 1] [0] rfl rfl rfl rfl ?_)
  obtain rfl := Option.some.inj h
  exact Qn rfl rfl (resA (vs := [vI YQ.2]) rfl ⟨rfl, trivial⟩) [0, 1] [] rfl rfl rfl ⟨rfl, rfl, rfl⟩
 ·replace h := br_f hg1 h
  refine Qp (cgb hg1) ?_
  refine Qt (Qe (Qe (Qc (Qa rfl (Qy (vs := [vB rp1.Packed, vI rp1.Size, vU64 rp1.Desc, vU64 rp1.Driver, vU64 rp1.Device]) rfl rfl rfl rfl ZX (i := 2) rfl rfl rfl) ?_))))
  obtain ⟨check1, hx2, h⟩ := ob_e h
  refine Qs rfl (Qv (w_layout_Check hx2) [] [] rfl rfl rfl rfl rfl callee83 rfl rfl rfl rfl) ?_
  rintro _ ⟨_, _, _, ⟨rfl, rfl, rfl⟩, rfl⟩
  refine sAs rfl rfl rfl ?_
  refine Qd (tZ [2, 4, 9] [0, 1, 2] [0] rfl rfl rfl rfl ?_)
  refine Qe (Qc (sMv rfl rfl rfl ?_))
  refine Qa rfl (Qf rfl rfl rfl rfl rfl (QL (a := check1) (b := (0 : Int)))) ?_
  refine Qd (tZ [2, 4, 9, 21] [0, 1, 2] [0] rfl rfl rfl rfl ?_)
  rcases bC (check1 != (0 : Int)) with hg2 | hg2
  ·replace h := br_t hg2 h
   refine Ql (cgb hg2) ?_
   refine Qe (Qc (sMv rfl rfl rfl ?_))
   refine sAs rfl rfl rfl ?_
   refine Qd (tZ [6] [0, 1] [0] rfl rfl rfl rfl ?_)
   obtain rfl := Option.some.inj h
   exact Qn rfl rfl (resA (vs := [vI check1]) rfl ⟨rfl, trivial⟩) [0, 1] [] rfl rfl rfl ⟨rfl, rfl, rfl⟩
  ·replace h := br_f hg2 h
   refine Qp (cgb hg2) ?_
   refine Qt (Qe (Qe (Qc (Qa rfl (Qi rfl rfl rfl rfl fldF29x0) ?_))))
   refine Qa rfl (Qj rfl rfl rfl rfl tyF4 (i := 2) rfl rfl) ?_
   refine sMv rfl rfl rfl ?_
   refine Qa rfl (Qf rfl rfl rfl rfl rfl (bin_neq_b (a := rp1.Packed) (b := packed) Try.underlying4)) ?_
   refine Qd (tZ [26] [0, 1] [0] rfl rfl rfl rfl ?_)
   rcases bC (rp1.Packed != packed) with hg3 | hg3
   ·replace h := br_t hg3 h
    refine Ql (cgb hg3) ?_
    refine Qe (Qc (sAs rfl rfl rfl ?_))
    refine Qd (tZ [6] [0, 1] [0] rfl rfl rfl rfl ?_)
    obtain rfl := Option.some.inj h
    exact Qn rfl rfl (resA (vs := [vI (2 : Int)]) rfl ⟨rfl, trivial⟩) [0, 1] [] rfl rfl rfl ⟨rfl, rfl, rfl⟩
   ·replace h := br_f hg3 h
    refine Qp (cgb hg3) ?_
    refine Qt (Qe (Qc (sAs rfl rfl rfl ?_)))
    refine Qd (tZ [6] [0, 1] [0] rfl rfl rfl rfl ?_)
    obtain rfl := Option.some.inj h
    exact Qn rfl rfl (resA (vs := [vI (0 : Int)]) rfl ⟨rfl, trivial⟩) [0, 1] [] rfl rfl rfl ⟨rfl, rfl, rfl⟩

set_option maxRecDepth 100000 in
set_option maxHeartbeats 4000000 in
theorem XC {rp0 : List UInt8} {atp1 : Int} {np2 : Int} {b_rp0 : Nat} {r : UInt64} (h : XE rp0 atp1 np2 = some r) :
  Ctr Try.prog 113 #[.pointer (some ⟨b_rp0, 0, none⟩), vI atp1, vI np2] [(Qm b_rp0 180 (rp0.map vU8))] []
   (fun rv own shr => rv = vU64 r ∧ own = [(Qm b_rp0 180 (rp0.map vU8))] ∧ shr = []) := by
 unfold XE at h
 refine Ctr.mk (args := [.pointer (some ⟨b_rp0, 0, none⟩), vI atp1, vI np2]) Try.func113 rfl rfl (fun R0 w0 B => ?_)
 refine Qe (Qc (sAs rfl rfl rfl ?_))
 refine Qd (Qe (Qe (Qc (sMv rfl rfl rfl ?_))))
 refine sMv rfl rfl rfl ?_
 refine Qd (tZ [0, 1, 6, 8, 9] [0] [] rfl rfl rfl rfl ?_)
 refine QC (Zf (σ := UInt64 × Int) [0, 1, 6, 8, 9] [0] [] (fun s => ⟨[(0, some (.pointer (some ⟨b_rp0, 0, none⟩))), (1, some (vI atp1)), (6, some (vU64 s.1)), (8, some (vI np2)), (9, some (vI s.2))], [some (Qm b_rp0 180 (rp0.map vU8))], []⟩) (fun nf1 s => desc_raw_getL1 rp0 atp1 np2 nf1 s.1 s.2 = some r) fuel ((0 : UInt64), (0 : Int)) h rfl rfl rfl rfl rfl (fun s h => by cases h) ?_)
 rintro nf1 ⟨v1, x1⟩ h
 replace h : desc_raw_getL1B rp0 atp1 np2 (desc_raw_getL1 rp0 atp1 np2 nf1) v1 x1 = some r := h
 unfold desc_raw_getL1B at h
 refine Qe (Qc (Qa rfl (Qf rfl rfl rfl rfl rfl (QI (a := x1) (b := np2))) ?_))
 refine Qd (Qe ?_)
 rcases bC (decide (x1 < np2)) with hg1 | hg1
 ·replace h := br_t hg1 h
  refine Ql (cgb hg1) ?_
  refine Qt (Qe (QC (Qe (Qc (sMv rfl rfl rfl ?_)))))
  refine sAs rfl rfl rfl ?_
  refine Qd (tZ [0, 1, 6, 8, 9, 7] [0] [] rfl rfl rfl rfl ?_)
  refine Qc (sMv rfl rfl rfl ?_)
  refine sMv rfl rfl rfl ?_
  refine sMv rfl rfl rfl ?_
  refine sMv rfl rfl rfl ?_
  refine Qa rfl (Qf rfl rfl rfl rfl rfl (QG (a := atp1) (b := x1))) ?_
  refine Qa rfl (Zt rfl rfl rfl rfl) ?_
  obtain ⟨hc1, h⟩ := ZK h
  refine Qa rfl (Zp rfl rfl rfl rfl rfl arrF180 hc1) ?_
  obtain ⟨u1, hx1, h⟩ := ob_e h
  refine Qa rfl (OpT_loadLA (f := vU8) rfl rfl rfl rfl tyF5 (i := 0) rfl hx1) ?_
  refine Qa rfl (QX rfl rfl rfl rfl (cnv_u8_u64 (n := u1) Try.underlying5 Try.underlying27)) ?_
  refine sMv rfl rfl rfl ?_
  refine Qa rfl (Qf rfl rfl rfl rfl rfl (YE (a := (8 : Int)) (b := x1))) ?_
  obtain ⟨hc2, h⟩ := ZK h
  refine Qa rfl (Qf rfl rfl rfl rfl rfl (bin_shl_u64_i64 (a := u1.toUInt64) (n := wi ((8 : Int) * x1)) hc2)) ?_
  refine Qa rfl (Qf rfl rfl rfl rfl rfl (bin_or_u64 (a := v1) (b := Km u1.toUInt64 ((wi ((8 : Int) * x1)).toNat)))) ?_
  refine sAs rfl rfl rfl ?_
  refine Qd (tZ [0, 1, 6, 8, 9] [0] [] rfl rfl rfl rfl ?_)
  refine Zx (Qc (Qa rfl (Qf rfl rfl rfl rfl rfl (QG (a := x1) (b := (1 : Int)))) ?_))
  refine sMv rfl rfl rfl ?_
  refine Qd (tZ [0, 1, 6, 8, 9] [0] [] rfl rfl rfl rfl ?_)
  exact QY (v1 ||| (Km u1.toUInt64 ((wi ((8 : Int) * x1)).toNat)), wi (x1 + (1 : Int))) h [0, 1, 6, 8, 9] [0] [] rfl rfl rfl rfl rfl
 ·replace h := br_f hg1 h
  refine Qp (cgb hg1) ?_
  refine Zv _ rfl ?_
  refine Qe (Qc (sMv rfl rfl rfl ?_))
  refine sAs rfl rfl rfl ?_
  refine Qd (tZ [6] [0] [] rfl rfl rfl rfl ?_)
  obtain rfl := Option.some.inj h
  exact Qn rfl rfl (resA (vs := [vU64 v1]) rfl ⟨rfl, trivial⟩) [0] [] rfl rfl rfl ⟨rfl, rfl, rfl⟩

set_option maxRecDepth 100000 in
set_option maxHeartbeats 4000000 in
theorem w_desc_Read {b : List UInt8} {vb1 : Value} {r : (Desc × Int)} (h : Ji b = some r) :
  Ctr Try.prog 85 #[vb1] [] [Fact.sl u8S vb1 b]
   (fun rv own shr => rv = .tuple #[.agg #[vU64 r.1.Addr, vU32 r.1.Len, vU16 r.1.Flags, vU16 r.1.Next], vI r.2] ∧ own = [] ∧ shr = []) := by
 unfold Ji at h
 refine Ctr.mk (args := [vb1]) Try.func85 rfl rfl (fun R0 w0 B => ?_)
 refine Qe (Qc (Qu rfl (QD rfl rfl rfl tyZ36) fun b1 => ?_))
 refine sAs rfl rfl rfl ?_
 refine Qd (tZ [0, 2] [0] [0] rfl rfl rfl rfl ?_)
 refine Qe (Qe (Qc (sMv rfl rfl rfl ?_)))
 refine Qa rfl (QT rfl rfl rfl rfl Try.underlying39 (i := 0) rfl) ?_
 refine Qa rfl (Qf rfl rfl rfl rfl rfl (QL (a := len b) (b := (16 : Int)))) ?_
 refine Qd (tZ [0, 2, 7] [0] [0] rfl rfl rfl rfl ?_)
 rcases bC ((len b) != (16 : Int)) with hg1 | hg1
 ·replace h := br_t hg1 h
  refine Ql (cgb hg1) ?_
  refine Qe (Qc (Qa rfl (QE (v := .agg #[vU64 (0 : UInt64), vU32 (0 : UInt32), vU16 (0 : UInt16), vU16 (0 : UInt16)]) rfl rfl rfl rfl (bldV (by kernel_rfl))) ?_))
  refine Qa rfl (Qo (cs' := [vU64 (0 : UInt64), vU32 (0 : UInt32), vU16 (0 : UInt16), vU16 (0 : UInt16)]) rfl rfl rfl rfl tyF36 (i := 0) rfl rfl rfl (QF rfl) rfl) ?_
  refine sAs rfl rfl rfl ?_
  refine Qd (tZ [2, 3] [0] [] rfl rfl rfl rfl ?_)
  obtain rfl := Option.some.inj h
  exact Qn rfl rfl (resA (vs := [.agg #[vU64 (0 : UInt64), vU32 (0 : UInt32), vU16 (0 : UInt16), vU16 (0 : UInt16)], vI (4 : Int)]) rfl ⟨⟨_, 0, _, _, _, rfl, rfl, .inl ⟨tyF36, rfl, rfl⟩⟩, rfl, trivial⟩) [] [] rfl rfl rfl ⟨rfl, rfl, rfl⟩
 ·replace h := br_f hg1 h
  refine Qp (cgb hg1) ?_
  refine Qt (Qe (Qc (sMv rfl rfl rfl ?_)))
  obtain ⟨hc1, h⟩ := ZK h
  refine Qu rfl (OpT_toArr rfl rfl rfl rfl arrF180 (i := 0) rfl hc1 rfl) fun p1 => ?_
  refine Qa rfl (OpT_loadArrD u8S rfl (f := vU8) (fun _ => rfl) rfl rfl rfl rfl tyF180 (i := 1) rfl rfl) ?_
  refine Qu rfl (QD rfl rfl rfl tyZ180) fun b2 => ?_
  obtain ⟨hc2, h⟩ := ZK h
  refine Qa rfl (OpT_storeLAA (f := vU8) (xs := b.take 16) rfl rfl rfl rfl tyF180 (i := 1) rfl hc2 rfl (fun _ => rfl)) ?_
  refine Qd (tZ [2, 4] [0, 1] [] rfl rfl rfl rfl ?_)
  refine Qe (Qc ?_)
  obtain ⟨get1, hx1, h⟩ := ob_e h
  refine Qs rfl (QJ [0, 2] (XC hx1) [1] [] rfl rfl rfl rfl rfl callee113 rfl rfl rfl rfl rfl) ?_
  rintro _ ⟨_, _, _, ⟨rfl, rfl, rfl⟩, rfl⟩
  obtain ⟨get2, hx2, h⟩ := ob_e h
  refine Qs rfl (QJ [0, 2] (XC hx2) [1] [] rfl rfl rfl rfl rfl callee113 rfl rfl rfl rfl rfl) ?_
  rintro _ ⟨_, _, _, ⟨rfl, rfl, rfl⟩, rfl⟩
  refine Qa rfl (QX rfl rfl rfl rfl (cnv_u64_u32 (n := get2) Try.underlying27 Try.underlying33)) ?_
  obtain ⟨get3, hx3, h⟩ := ob_e h
  refine Qs rfl (QJ [0, 2] (XC hx3) [1] [] rfl rfl rfl rfl rfl callee113 rfl rfl rfl rfl rfl) ?_
  rintro _ ⟨_, _, _, ⟨rfl, rfl, rfl⟩, rfl⟩
  refine Qa rfl (QX rfl rfl rfl rfl (cnv_u64_u16 (n := get3) Try.underlying27 Try.underlying34)) ?_
  obtain ⟨get4, hx4, h⟩ := ob_e h
  refine Qs rfl (QJ [0, 2] (XC hx4) [1] [] rfl rfl rfl rfl rfl callee113 rfl rfl rfl rfl rfl) ?_
  rintro _ ⟨_, _, _, ⟨rfl, rfl, rfl⟩, rfl⟩
  refine Qa rfl (QX rfl rfl rfl rfl (cnv_u64_u16 (n := get4) Try.underlying27 Try.underlying34)) ?_
  refine Qa rfl (QE (v := .agg #[vU64 get1, vU32 get2.toUInt32, vU16 get3.toUInt16, vU16 get4.toUInt16]) rfl rfl rfl rfl (bldV (by kernel_rfl))) ?_
  refine Qa rfl (Qo (cs' := [vU64 get1, vU32 get2.toUInt32, vU16 get3.toUInt16, vU16 get4.toUInt16]) rfl rfl rfl rfl tyF36 (i := 0) rfl rfl rfl (QF rfl) rfl) ?_
  refine sAs rfl rfl rfl ?_
  refine Qd (tZ [2, 3] [0] [] rfl rfl rfl rfl ?_)
  obtain rfl := Option.some.inj h
  exact Qn rfl rfl (resA (vs := [.agg #[vU64 get1, vU32 get2.toUInt32, vU16 get3.toUInt16, vU16 get4.toUInt16], vI (0 : Int)]) rfl ⟨⟨_, 0, _, _, _, rfl, rfl, .inl ⟨tyF36, rfl, rfl⟩⟩, rfl, trivial⟩) [] [] rfl rfl rfl ⟨rfl, rfl, rfl⟩

set_option maxRecDepth 100000 in
set_option maxHeartbeats 4000000 in
theorem w_gmem_Mem_Has {m : gmem_Mem} {atp1 : UInt64} {np2 : UInt64} {b_m : Nat} {vm1 : Value} {vm2 : Value} {vsm1 : List Value} {r : Bool} (h : KN m atp1 np2 = some r) :
  Ctr Try.prog 26 #[.pointer (some ⟨b_m, 0, none⟩), vU64 atp1, vU64 np2] [(Qm b_m 113 [vm1, vm2]), (QV u8S true vm2 vsm1 m.b none)] [Fact.sl Qz vm1 m.l]
   (fun rv own shr => rv = vB r ∧ own = [(Qm b_m 113 [vm1, vm2]), (QV u8S true vm2 vsm1 m.b none)] ∧ shr = []) := by
 unfold KN at h
 refine Ctr.mk (args := [.pointer (some ⟨b_m, 0, none⟩), vU64 atp1, vU64 np2]) Try.func26 rfl rfl (fun R0 w0 B => ?_)
 refine Qe (Qc (sAs rfl rfl rfl ?_))
 refine Qd (tZ [0, 1, 2] [0, 1] [0] rfl rfl rfl rfl ?_)
 refine Qe (Qc (sMv rfl rfl rfl ?_))
 obtain ⟨made1, hx1, h⟩ := ob_e h
 refine Qs rfl (QJ [2, 3] (w_gmem_Mem_made hx1) [0, 1] [0] rfl rfl rfl rfl rfl callee37 rfl rfl rfl rfl rfl) ?_
 rintro _ ⟨_, _, _, ⟨rfl, rfl, rfl⟩, rfl⟩
 refine sMv rfl rfl rfl ?_
 refine Qh rfl rfl (congrArg (fun b => some (Value.bool b)) (Option.some.inj (show some true = some made1 from hx1)).symm) (Qk rfl rfl rfl rfl) ?_
 rintro _ rfl
 refine Qh rfl rfl (congrArg (fun b => some (Value.bool b)) (Option.some.inj (show some true = some made1 from hx1)).symm) (Qk rfl rfl rfl rfl) ?_
 rintro _ rfl
 refine Qh rfl rfl (congrArg (fun b => some (Value.bool b)) (Option.some.inj (show some true = some made1 from hx1)).symm) (Qk rfl rfl rfl rfl) ?_
 rintro _ rfl
 obtain ⟨bytes1, hx2, h⟩ := ob_e h
 refine Qh rfl rfl (congrArg (fun b => some (Value.bool b)) (Option.some.inj (show some true = some made1 from hx1)).symm) (QJ [2, 3] (w_gmem_Mem_bytes hx2) [0, 1] [0] rfl rfl rfl rfl rfl callee38 rfl rfl rfl rfl rfl) ?_
 rintro _ ⟨_, _, _, ⟨rfl, rfl, rfl⟩, rfl⟩
 rcases onO_cases h with ⟨ho1, h⟩ | ⟨w1, ho1, h⟩
 ·rw [show (winV 1 vsm1 bytes1 : Value) = .slice none 0 0 from by rw [ho1]; rfl]
  refine Qh rfl rfl (congrArg (fun b => some (Value.bool b)) (Option.some.inj (show some true = some made1 from hx1)).symm) (OpT_eqNilN rfl rfl rfl (.inr rfl) rfl rfl Try.underlying39) ?_
  rintro _ rfl
  refine Qa rfl (Qr rfl rfl rfl (congrArg (fun b => some (Value.bool b)) (Option.some.inj (show some true = some made1 from hx1)).symm) rfl) ?_
  refine sAs rfl rfl rfl ?_
  refine Qd (tZ [6] [0, 1] [0] rfl rfl rfl rfl ?_)
  obtain rfl := Option.some.inj h
  exact Qn rfl rfl (resA (vs := [vB false]) rfl ⟨rfl, trivial⟩) [0, 1] [] rfl rfl rfl ⟨rfl, rfl, rfl⟩
 ·rw [show (winV 1 vsm1 bytes1 : Value) = subV (vsAt vsm1 (Int.toNat w1.1)) 1 (Int.toNat w1.2.1) (Int.toNat w1.2.2) from by rw [ho1]; rfl]
  obtain ⟨row1, hx3, h⟩ := ob_e h
  refine Yb (vs_focus (i := 1) (j := w1.1) rfl hx3) ?_
  obtain ⟨hc1, h⟩ := ZK h
  obtain ⟨hc2, h⟩ := ZK h
  refine Qh rfl rfl (congrArg (fun b => some (Value.bool b)) (Option.some.inj (show some true = some made1 from hx1)).symm) (OpT_eqSub (S := u8S) (l := w1.2.1) (m := w1.2.2) rfl rfl rfl (.inr rfl) rfl rfl Try.underlying39 (i := 2) rfl hc1 hc2) ?_
  rintro _ rfl
  refine Qa rfl (Qr rfl rfl rfl (congrArg (fun b => some (Value.bool b)) (Option.some.inj (show some true = some made1 from hx1)).symm) rfl) ?_
  refine sAs rfl rfl rfl ?_
  refine Qd (tZ [6] [0, 1, 2] [0] rfl rfl rfl rfl ?_)
  refine Tk_vs (vs_unfocus0 (i := 1) (q := 2) rfl rfl rfl hx3) ?_
  obtain rfl := Option.some.inj h
  exact Qn rfl rfl (resA (vs := [vB true]) rfl ⟨rfl, trivial⟩) [0, 1] [] rfl rfl rfl ⟨rfl, rfl, rfl⟩

set_option maxRecDepth 100000 in
set_option maxHeartbeats 4000000 in
theorem w_walk_entries {m : gmem_Mem} {atp1 : UInt64} {np2 : UInt32} {b_m : Nat} {vm1 : Value} {vm2 : Value} {vsm1 : List Value} {r : (Int × Int)} (h : KJ m atp1 np2 = some r) :
  Ctr Try.prog 86 #[.pointer (some ⟨b_m, 0, none⟩), vU64 atp1, vU32 np2] [(Qm b_m 113 [vm1, vm2]), (QV u8S true vm2 vsm1 m.b none)] [Fact.sl Qz vm1 m.l]
   (fun rv own shr => rv = .tuple #[vI r.1, vI r.2] ∧ own = [(Qm b_m 113 [vm1, vm2]), (QV u8S true vm2 vsm1 m.b none)] ∧ shr = []) := by
 unfold KJ at h
 refine Ctr.mk (args := [.pointer (some ⟨b_m, 0, none⟩), vU64 atp1, vU32 np2]) Try.func86 rfl rfl (fun R0 w0 B => ?_)
 refine Qe (Qc (sAs rfl rfl rfl ?_))
 refine sAs rfl rfl rfl ?_
 refine Qd (tZ [0, 1, 2] [0, 1] [0] rfl rfl rfl rfl ?_)
 refine Qe (Qe (Qc (sMv rfl rfl rfl ?_)))
 refine Qa rfl (Qf rfl rfl rfl rfl rfl (bin_eql_u32 (a := np2) (b := (0 : UInt32)))) ?_
 refine sMv rfl rfl rfl ?_
 rcases bC (np2 == (0 : UInt32)) with hg1 | hg1
 ·replace h := br_t hg1 h
  refine Qg rfl rfl (cgb hg1) rfl rfl ?_
  refine Qg rfl rfl (cgb hg1) rfl rfl ?_
  refine Qg rfl rfl (cgb hg1) rfl rfl ?_
  refine Qa rfl (Qr rfl rfl rfl (cgb hg1) rfl) ?_
  refine sMv rfl rfl rfl ?_
  refine Qg rfl rfl rfl rfl rfl ?_
  refine Qg rfl rfl rfl rfl rfl ?_
  refine Qg rfl rfl rfl rfl rfl ?_
  refine Qa rfl (Qr rfl rfl rfl rfl rfl) ?_
  refine Qd (tZ [0, 1, 2, 19] [0, 1] [0] rfl rfl rfl rfl ?_)
  refine Ql rfl ?_
  refine Qe (Qc (sAs rfl rfl rfl ?_))
  refine sAs rfl rfl rfl ?_
  refine Qd (tZ [6, 7] [0, 1] [0] rfl rfl rfl rfl ?_)
  obtain rfl := Option.some.inj h
  exact Qn rfl rfl (resA (vs := [vI (0 : Int), vI (4 : Int)]) rfl ⟨rfl, rfl, trivial⟩) [0, 1] [] rfl rfl rfl ⟨rfl, rfl, rfl⟩
 ·replace h := br_f hg1 h
  refine Qh rfl rfl (cgb hg1) (Qk rfl rfl rfl rfl) ?_
  rintro _ rfl
  refine Qh rfl rfl (cgb hg1) (Qf rfl rfl rfl rfl rfl (bin_rem_u32 (a := np2) (b := (16 : UInt32)) rfl)) ?_
  rintro _ rfl
  refine Qh rfl rfl (cgb hg1) (Qf rfl rfl rfl rfl rfl (bin_neq_u32 (a := np2 % (16 : UInt32)) (b := (0 : UInt32)))) ?_
  rintro _ rfl
  refine Qa rfl (Qw rfl rfl rfl (cgb hg1) rfl) ?_
  refine sMv rfl rfl rfl ?_
  rcases bC ((np2 % (16 : UInt32)) != (0 : UInt32)) with hg2 | hg2
  ·replace h := br_t hg2 h
   refine Qg rfl rfl (cgb hg2) rfl rfl ?_
   refine Qg rfl rfl (cgb hg2) rfl rfl ?_
   refine Qg rfl rfl (cgb hg2) rfl rfl ?_
   refine Qa rfl (Qr rfl rfl rfl (cgb hg2) rfl) ?_
   refine Qd (tZ [0, 1, 2, 19] [0, 1] [0] rfl rfl rfl rfl ?_)
   refine Ql rfl ?_
   refine Qe (Qc (sAs rfl rfl rfl ?_))
   refine sAs rfl rfl rfl ?_
   refine Qd (tZ [6, 7] [0, 1] [0] rfl rfl rfl rfl ?_)
   obtain rfl := Option.some.inj h
   exact Qn rfl rfl (resA (vs := [vI (0 : Int), vI (4 : Int)]) rfl ⟨rfl, rfl, trivial⟩) [0, 1] [] rfl rfl rfl ⟨rfl, rfl, rfl⟩
  ·replace h := br_f hg2 h
   refine Qh rfl rfl (cgb hg2) (Qk rfl rfl rfl rfl) ?_
   rintro _ rfl
   refine Qh rfl rfl (cgb hg2) (Qf rfl rfl rfl rfl rfl (bin_quo_u32 (a := np2) (b := (16 : UInt32)) rfl)) ?_
   rintro _ rfl
   refine Qh rfl rfl (cgb hg2) (Qf rfl rfl rfl rfl rfl (bin_gtr_u32 (a := np2 / (16 : UInt32)) (b := (64 : UInt32)))) ?_
   rintro _ rfl
   refine Qa rfl (Qw rfl rfl rfl (cgb hg2) rfl) ?_
   refine Qd (tZ [0, 1, 2, 19] [0, 1] [0] rfl rfl rfl rfl ?_)
   rcases bC (decide ((np2 / (16 : UInt32)) > (64 : UInt32))) with hg3 | hg3
   ·replace h := br_t hg3 h
    refine Ql (cgb hg3) ?_
    refine Qe (Qc (sAs rfl rfl rfl ?_))
    refine sAs rfl rfl rfl ?_
    refine Qd (tZ [6, 7] [0, 1] [0] rfl rfl rfl rfl ?_)
    obtain rfl := Option.some.inj h
    exact Qn rfl rfl (resA (vs := [vI (0 : Int), vI (4 : Int)]) rfl ⟨rfl, rfl, trivial⟩) [0, 1] [] rfl rfl rfl ⟨rfl, rfl, rfl⟩
   ·replace h := br_f hg3 h
    refine Qp (cgb hg3) ?_
    refine Qt (Qe (Qe (Qc (sMv rfl rfl rfl ?_))))
    refine sMv rfl rfl rfl ?_
    refine sMv rfl rfl rfl ?_
    refine Qa rfl (QX rfl rfl rfl rfl (XM (n := np2) Try.underlying33 Try.underlying27)) ?_
    obtain ⟨has1, hx1, h⟩ := ob_e h
    refine Qs rfl (QJ [2, 3] (w_gmem_Mem_Has hx1) [0, 1] [0] rfl rfl rfl rfl rfl callee26 rfl rfl rfl rfl rfl) ?_
    rintro _ ⟨_, _, _, ⟨rfl, rfl, rfl⟩, rfl⟩
    refine Qa rfl (XO rfl rfl rfl rfl) ?_
    refine Qd (tZ [2, 25] [0, 1] [0] rfl rfl rfl rfl ?_)
    rcases bC ((!has1)) with hg4 | hg4
    ·replace h := br_t hg4 h
     refine Ql (cgb hg4) ?_
     refine Qe (Qc (sAs rfl rfl rfl ?_))
     refine sAs rfl rfl rfl ?_
     refine Qd (tZ [6, 7] [0, 1] [0] rfl rfl rfl rfl ?_)
     obtain rfl := Option.some.inj h
     exact Qn rfl rfl (resA (vs := [vI (0 : Int), vI (5 : Int)]) rfl ⟨rfl, rfl, trivial⟩) [0, 1] [] rfl rfl rfl ⟨rfl, rfl, rfl⟩
    ·replace h := br_f hg4 h
     refine Qp (cgb hg4) ?_
     refine Qt (Qe (Qc (sMv rfl rfl rfl ?_)))
     refine Qa rfl (Qf rfl rfl rfl rfl rfl (bin_quo_u32 (a := np2) (b := (16 : UInt32)) rfl)) ?_
     refine Qa rfl (QX rfl rfl rfl rfl (cnv_u32_i (n := np2 / (16 : UInt32)) Try.underlying33 Try.underlying3)) ?_
     refine sAs rfl rfl rfl ?_
     refine sAs rfl rfl rfl ?_
     refine Qd (tZ [6, 7] [0, 1] [0] rfl rfl rfl rfl ?_)
     obtain rfl := Option.some.inj h
     exact Qn rfl rfl (resA (vs := [vI (i32 (np2 / (16 : UInt32))), vI (0 : Int)]) rfl ⟨rfl, rfl, trivial⟩) [0, 1] [] rfl rfl rfl ⟨rfl, rfl, rfl⟩

set_option maxRecDepth 100000 in
set_option maxHeartbeats 4000000 in
theorem w_walk_made {atp0 : UInt64} {np1 : UInt32} {flags : UInt16} {r : Seg} (h : Kr atp0 np1 flags = some r) :
  Ctr Try.prog 87 #[vU64 atp0, vU32 np1, vU16 flags] [] []
   (fun rv own shr => rv = .agg #[vU64 r.At, vU32 r.Len, vB r.Write] ∧ own = [] ∧ shr = []) := by
 unfold Kr at h
 refine Ctr.mk (args := [vU64 atp0, vU32 np1, vU16 flags]) Try.func87 rfl rfl (fun R0 w0 B => ?_)
 refine Qe (Qc (Qu rfl (QD rfl rfl rfl tyZ46) fun b1 => ?_))
 refine Qd (Qe (Qc (sMv rfl rfl rfl ?_)))
 refine sMv rfl rfl rfl ?_
 refine sMv rfl rfl rfl ?_
 refine Qa rfl (Qf rfl rfl rfl rfl rfl (XZ (a := flags) (b := (2 : UInt16)))) ?_
 refine Qa rfl (Qf rfl rfl rfl rfl rfl (KI (a := flags &&& (2 : UInt16)) (b := (0 : UInt16)))) ?_
 refine Qa rfl (QE (v := .agg #[vU64 atp0, vU32 np1, vB ((flags &&& (2 : UInt16)) != (0 : UInt16))]) rfl rfl rfl rfl (bldV (by kernel_rfl))) ?_
 refine Qa rfl (Qo (cs' := [vU64 atp0, vU32 np1, vB ((flags &&& (2 : UInt16)) != (0 : UInt16))]) rfl rfl rfl rfl tyF46 (i := 0) rfl rfl rfl (QF rfl) rfl) ?_
 refine Qd (tZ [6] [0] [] rfl rfl rfl rfl ?_)
 obtain rfl := Option.some.inj h
 exact Qn rfl rfl (resA (vs := [.agg #[vU64 atp0, vU32 np1, vB ((flags &&& (2 : UInt16)) != (0 : UInt16))]]) rfl ⟨⟨_, 0, _, _, _, rfl, rfl, .inl ⟨tyF46, rfl, rfl⟩⟩, trivial⟩) [] [] rfl rfl rfl ⟨rfl, rfl, rfl⟩

set_option maxRecDepth 100000 in
set_option maxHeartbeats 4000000 in
theorem w_walk_split_1ct3 {atp0 : UInt64} {size : Int} {kp2 : Int} {arg4 : Int} {arg5 : gmem_Mem} {arg6 : Int} {arg7 : Bool} {arg9 : List Seg} {b_arg4 : Nat} {b_arg5 : Nat} {varg51 : Value} {varg52 : Value} {vsarg51 : List Value} {bb_arg5 : Nat} {b_arg6 : Nat} {b_arg7 : Nat} {b_arg8 : Nat} {b_arg9 : Nat} {varg91 : Value} {r : (Int × Int × Bool × (List Seg))} (h : KS atp0 size kp2 arg4 arg5 arg6 arg7 arg9 = some r) :
  Ctr Try.prog 84 #[vU64 atp0, vI size, vI kp2, vB true, .pointer (some ⟨b_arg4, 0, none⟩), .pointer (some ⟨bb_arg5, 0, none⟩), .pointer (some ⟨b_arg6, 0, none⟩), .pointer (some ⟨b_arg7, 0, none⟩), .pointer (some ⟨b_arg8, 0, none⟩), .pointer (some ⟨b_arg9, 0, none⟩)] [(Qm b_arg4 37 [vI arg4]), (Qm bb_arg5 25 [.pointer (some ⟨b_arg5, 0, none⟩)]), (Qm b_arg5 113 [varg51, varg52]), (QV u8S true varg52 vsarg51 arg5.b none), (Qm b_arg6 3 [vI arg6]), (Qm b_arg7 4 [vB arg7]), (Qm b_arg8 156 [.func (.func 84) #[] #[.pointer (some ⟨b_arg4, 0, none⟩), .pointer (some ⟨bb_arg5, 0, none⟩), .pointer (some ⟨b_arg6, 0, none⟩), .pointer (some ⟨b_arg7, 0, none⟩), .pointer (some ⟨b_arg8, 0, none⟩), .pointer (some ⟨b_arg9, 0, none⟩)]]), (Qm b_arg9 41 [varg91]), (rowS SegS varg91 arg9)] [Fact.sl Qz varg51 arg5.l]
   (fun rv own shr => ∃ (w1 : Value), rv = .tuple #[] ∧ own = [(Qm b_arg4 37 [vI r.1]), (Qm bb_arg5 25 [.pointer (some ⟨b_arg5, 0, none⟩)]), (Qm b_arg5 113 [varg51, varg52]), (QV u8S true varg52 vsarg51 arg5.b none), (Qm b_arg6 3 [vI r.2.1]), (Qm b_arg7 4 [vB r.2.2.1]), (Qm b_arg8 156 [.func (.func 84) #[] #[.pointer (some ⟨b_arg4, 0, none⟩), .pointer (some ⟨bb_arg5, 0, none⟩), .pointer (some ⟨b_arg6, 0, none⟩), .pointer (some ⟨b_arg7, 0, none⟩), .pointer (some ⟨b_arg8, 0, none⟩), .pointer (some ⟨b_arg9, 0, none⟩)]]), (Qm b_arg9 41 [w1]), (rowS SegS w1 r.2.2.2)] ∧ shr = []) := by
 unfold KS at h
 refine Ctr.mk (args := [vU64 atp0, vI size, vI kp2, vB true, .pointer (some ⟨b_arg4, 0, none⟩), .pointer (some ⟨bb_arg5, 0, none⟩), .pointer (some ⟨b_arg6, 0, none⟩), .pointer (some ⟨b_arg7, 0, none⟩), .pointer (some ⟨b_arg8, 0, none⟩), .pointer (some ⟨b_arg9, 0, none⟩)]) Try.func84 rfl rfl (fun R0 w0 B => ?_)
 refine Qe (Qc (Qu rfl (OpT_makeMap .i64 (fun x : Int => x) vB rfl rfl rfl) fun b1 => ?_))
 refine sAs rfl rfl rfl ?_
 refine Qd (tZ [0, 1, 2, 3, 4, 5, 6, 7, 8, 9, 14] [0, 1, 2, 3, 4, 5, 6, 7, 8, 9] [0] rfl rfl rfl rfl ?_)
 refine QC (Zf (σ := Int × Int × Int × Bool × (List Seg) × (List (Int × Bool)) × Value) [0, 1, 2, 3, 4, 5, 6, 7, 8, 9, 14] [0, 1, 2, 3, 4, 5, 6, 7, 8, 9] [0] (fun s => ⟨[(0, some (vU64 atp0)), (1, some (vI size)), (2, some (vI s.1)), (3, some (vB true)), (4, some (.pointer (some ⟨b_arg4, 0, none⟩))), (5, some (.pointer (some ⟨bb_arg5, 0, none⟩))), (6, some (.pointer (some ⟨b_arg6, 0, none⟩))), (7, some (.pointer (some ⟨b_arg7, 0, none⟩))), (8, some (.pointer (some ⟨b_arg8, 0, none⟩))), (9, some (.pointer (some ⟨b_arg9, 0, none⟩))), (14, some (.map (some b1)))], [some (Qm b_arg4 37 [vI s.2.1]), some (Qm bb_arg5 25 [.pointer (some ⟨b_arg5, 0, none⟩)]), some (Qm b_arg5 113 [varg51, varg52]), some (QV u8S true varg52 vsarg51 arg5.b none), some (Qm b_arg6 3 [vI s.2.2.1]), some (Qm b_arg7 4 [vB s.2.2.2.1]), some (Qm b_arg8 156 [.func (.func 84) #[] #[.pointer (some ⟨b_arg4, 0, none⟩), .pointer (some ⟨bb_arg5, 0, none⟩), .pointer (some ⟨b_arg6, 0, none⟩), .pointer (some ⟨b_arg7, 0, none⟩), .pointer (some ⟨b_arg8, 0, none⟩), .pointer (some ⟨b_arg9, 0, none⟩)]]), some (Qm b_arg9 41 [s.2.2.2.2.2.2]), some (rowS SegS s.2.2.2.2.2.2 s.2.2.2.2.1), some (mapR b1 .i64 (fun x : Int => x) vB s.2.2.2.2.2.1)], [Fact.sl Qz varg51 arg5.l]⟩) (fun nf1 s => XF atp0 size arg5 nf1 s.1 s.2.1 s.2.2.1 s.2.2.2.1 s.2.2.2.2.1 s.2.2.2.2.2.1 = some r) fuel (kp2, arg4, arg6, arg7, arg9, ([] : List (Int × Bool)), varg91) h rfl rfl rfl rfl rfl (fun s h => by cases h) ?_)
 rintro nf1 ⟨k1, m1, m2, m3, l1, map1, v1⟩ h
 replace h : YM atp0 size arg5 (XF atp0 size arg5 nf1) k1 m1 m2 m3 l1 map1 = some r := h
 unfold YM at h
 refine QC (Qe (Qe (Qc (sMv rfl rfl rfl ?_))))
 refine sMv rfl rfl rfl ?_
 refine Qa rfl (OpT_lookup keyI (V := vB) (kx := k1) (z := false) rfl rfl rfl rfl rfl Try.underlying157 Try.underlying3 tyZ4 (i := 9) rfl) ?_
 refine sMv rfl rfl rfl ?_
 rcases bC (mget false k1 map1) with hg1 | hg1
 ·replace h := br_t hg1 h
  refine Qg rfl rfl (cgb hg1) rfl rfl ?_
  refine Qg rfl rfl (cgb hg1) rfl rfl ?_
  refine Qa rfl (Qr rfl rfl rfl (cgb hg1) rfl) ?_
  refine sMv rfl rfl rfl ?_
  refine Qg rfl rfl rfl rfl rfl ?_
  refine Qg rfl rfl rfl rfl rfl ?_
  refine Qg rfl rfl rfl rfl rfl ?_
  refine Qa rfl (Qr rfl rfl rfl rfl rfl) ?_
  refine Qd (tZ [0, 1, 2, 3, 4, 5, 6, 7, 8, 9, 14, 33] [0, 1, 2, 3, 4, 5, 6, 7, 8, 9] [0] rfl rfl rfl rfl ?_)
  refine Ql rfl ?_
  refine Qe (Qc (Qa rfl (Qo (cs' := [vI (4 : Int)]) rfl rfl rfl rfl tyF37 (i := 0) rfl rfl rfl (QF rfl) rfl) ?_))
  refine Qd (tZ [] [0, 1, 2, 3, 4, 5, 6, 7, 8] [0] rfl rfl rfl rfl ?_)
  obtain rfl := Option.some.inj h
  exact Qn rfl rfl (resA (vs := []) rfl trivial) [0, 1, 2, 3, 4, 5, 6, 7, 8] [] rfl rfl rfl ⟨v1, rfl, rfl, rfl⟩
 ·replace h := br_f hg1 h
  refine Qh rfl rfl (cgb hg1) (Qk rfl rfl rfl rfl) ?_
  rintro _ rfl
  refine Qh rfl rfl (cgb hg1) (Qf rfl rfl rfl rfl rfl (QI (a := k1) (b := (0 : Int)))) ?_
  rintro _ rfl
  refine Qa rfl (Qw rfl rfl rfl (cgb hg1) rfl) ?_
  refine sMv rfl rfl rfl ?_
  rcases bC (decide (k1 < (0 : Int))) with hg2 | hg2
  ·replace h := br_t hg2 h
   refine Qg rfl rfl (cgb hg2) rfl rfl ?_
   refine Qg rfl rfl (cgb hg2) rfl rfl ?_
   refine Qg rfl rfl (cgb hg2) rfl rfl ?_
   refine Qa rfl (Qr rfl rfl rfl (cgb hg2) rfl) ?_
   refine Qd (tZ [0, 1, 2, 3, 4, 5, 6, 7, 8, 9, 14, 33] [0, 1, 2, 3, 4, 5, 6, 7, 8, 9] [0] rfl rfl rfl rfl ?_)
   refine Ql rfl ?_
   refine Qe (Qc (Qa rfl (Qo (cs' := [vI (4 : Int)]) rfl rfl rfl rfl tyF37 (i := 0) rfl rfl rfl (QF rfl) rfl) ?_))
   refine Qd (tZ [] [0, 1, 2, 3, 4, 5, 6, 7, 8] [0] rfl rfl rfl rfl ?_)
   obtain rfl := Option.some.inj h
   exact Qn rfl rfl (resA (vs := []) rfl trivial) [0, 1, 2, 3, 4, 5, 6, 7, 8] [] rfl rfl rfl ⟨v1, rfl, rfl, rfl⟩
  ·replace h := br_f hg2 h
   refine Qh rfl rfl (cgb hg2) (Qk rfl rfl rfl rfl) ?_
   rintro _ rfl
   refine Qh rfl rfl (cgb hg2) (Qk rfl rfl rfl rfl) ?_
   rintro _ rfl
   refine Qh rfl rfl (cgb hg2) (Qf rfl rfl rfl rfl rfl (YF (a := k1) (b := size))) ?_
   rintro _ rfl
   refine Qa rfl (Qw rfl rfl rfl (cgb hg2) rfl) ?_
   refine Qd (tZ [0, 1, 2, 3, 4, 5, 6, 7, 8, 9, 14, 33] [0, 1, 2, 3, 4, 5, 6, 7, 8, 9] [0] rfl rfl rfl rfl ?_)
   rcases bC (decide (k1 ≥ size)) with hg3 | hg3
   ·replace h := br_t hg3 h
    refine Ql (cgb hg3) ?_
    refine Qe (Qc (Qa rfl (Qo (cs' := [vI (4 : Int)]) rfl rfl rfl rfl tyF37 (i := 0) rfl rfl rfl (QF rfl) rfl) ?_))
    refine Qd (tZ [] [0, 1, 2, 3, 4, 5, 6, 7, 8] [0] rfl rfl rfl rfl ?_)
    obtain rfl := Option.some.inj h
    exact Qn rfl rfl (resA (vs := []) rfl trivial) [0, 1, 2, 3, 4, 5, 6, 7, 8] [] rfl rfl rfl ⟨v1, rfl, rfl, rfl⟩
   ·replace h := br_f hg3 h
    refine Qp (cgb hg3) ?_
    refine Qt (Qe (Qc (sMv rfl rfl rfl ?_)))
    refine sMv rfl rfl rfl ?_
    refine Qa rfl (OpT_mapUpdate keyI k1 true (V := vB) (z := false) rfl rfl rfl rfl rfl rfl Try.underlying157 Try.underlying3 (i := 9) rfl rfl) ?_
    refine Qd (tZ [0, 1, 2, 3, 4, 5, 6, 7, 8, 9, 14] [0, 1, 2, 3, 4, 5, 6, 7, 8, 9] [0] rfl rfl rfl rfl ?_)
    refine Qe (Qc (Qa rfl (Qj rfl rfl rfl rfl tyF25 (i := 1) rfl rfl) ?_))
    refine sMv rfl rfl rfl ?_
    refine sMv rfl rfl rfl ?_
    refine Qa rfl (QX rfl rfl rfl rfl (Xw (n := k1) Try.underlying3 Try.underlying27)) ?_
    refine Qa rfl (Qf rfl rfl rfl rfl rfl (ZQ (a := (16 : UInt64)) (b := u64 k1))) ?_
    refine Qa rfl (Qf rfl rfl rfl rfl rfl (Za (a := atp0) (b := (16 : UInt64) * (u64 k1)))) ?_
    obtain ⟨YQ, hx1, h⟩ := ob_e h
    refine Qs rfl (QJ [0, 1, 10, 11, 4, 5, 6, 7, 8, 9, 12] (Yg hx1) [2, 3] [0] rfl rfl rfl rfl rfl callee82 rfl rfl rfl rfl rfl) ?_
    rintro _ ⟨_, _, _, ⟨v2, rfl, rfl, rfl⟩, rfl⟩
    refine sMv rfl rfl rfl ?_
    refine Qa rfl (Qq rfl rfl rfl rfl rfl) ?_
    refine Qa rfl (Qq rfl rfl rfl rfl rfl) ?_
    refine sAs rfl rfl rfl ?_
    refine sAs rfl rfl rfl ?_
    refine Qd (tZ [0, 1, 3, 4, 5, 6, 7, 8, 9, 14, 15, 16] [0, 1, 2, 3, 4, 5, 6, 7, 8, 9, 10] [0] rfl rfl rfl rfl ?_)
    refine Qe (Qe (Qc (sMv rfl rfl rfl ?_)))
    refine Qa rfl (Qf rfl rfl rfl rfl rfl (QL (a := YQ.2) (b := (0 : Int)))) ?_
    refine Qd (tZ [0, 1, 3, 4, 5, 6, 7, 8, 9, 14, 15, 47] [0, 1, 2, 3, 4, 5, 6, 7, 8, 9, 10] [0] rfl rfl rfl rfl ?_)
    rcases bC (YQ.2 != (0 : Int)) with hg4 | hg4
    ·replace h := br_t hg4 h
     refine Ql (cgb hg4) ?_
     refine Qe (Qc (Qa rfl (Qo (cs' := [vI (5 : Int)]) rfl rfl rfl rfl tyF37 (i := 0) rfl rfl rfl (QF rfl) rfl) ?_))
     refine Qd (tZ [] [0, 1, 2, 3, 4, 5, 6, 7, 8] [0] rfl rfl rfl rfl ?_)
     obtain rfl := Option.some.inj h
     exact Qn rfl rfl (resA (vs := []) rfl trivial) [0, 1, 2, 3, 4, 5, 6, 7, 8] [] rfl rfl rfl ⟨v1, rfl, rfl, rfl⟩
    ·replace h := br_f hg4 h
     refine Qp (cgb hg4) ?_
     refine Qt (Qe (Qc (Qa rfl (Qj rfl rfl rfl rfl tyF3 (i := 4) rfl rfl) ?_)))
     refine Qa rfl (Qf rfl rfl rfl rfl rfl (QG (a := m2) (b := (1 : Int)))) ?_
     refine Qa rfl (Qo (cs' := [vI (wi (m2 + (1 : Int)))]) rfl rfl rfl rfl tyF3 (i := 4) rfl rfl rfl (QF rfl) rfl) ?_
     refine Qd (tZ [0, 1, 3, 4, 5, 6, 7, 8, 9, 14, 15] [0, 1, 2, 3, 4, 5, 6, 7, 8, 9, 10] [0] rfl rfl rfl rfl ?_)
     refine Qe (Qc (sMv rfl rfl rfl ?_))
     obtain ⟨read2, hx2, h⟩ := ob_e h
     refine Qs rfl (Zu [10] [0, 1, 2, 3, 4, 5, 6, 7, 8, 9, 10] (w_desc_Read hx2) [] rfl rfl rfl rfl rfl callee85 rfl rfl rfl rfl rfl rfl (Zl (Xa 10 rfl rfl) ZZ) (by rintro _ _ _ ⟨rfl, rfl, rfl⟩; exact ⟨rfl, XS⟩)) ?_
     rintro _ ⟨_, _, _, ⟨rfl, rfl, rfl⟩, rfl⟩
     refine sMv rfl rfl rfl ?_
     refine Qa rfl (Qq rfl rfl rfl rfl rfl) ?_
     refine Qa rfl (Qq rfl rfl rfl rfl rfl) ?_
     refine Qu rfl (QD rfl rfl rfl tyZ36) fun b2 => ?_
     refine Qa rfl (Qo (cs' := [vU64 read2.1.Addr, vU32 read2.1.Len, vU16 read2.1.Flags, vU16 read2.1.Next]) rfl rfl rfl rfl tyF36 (i := 11) rfl rfl rfl (QF rfl) rfl) ?_
     refine sAs rfl rfl rfl ?_
     refine Qd (tZ [0, 1, 3, 4, 5, 6, 7, 8, 9, 14, 17] [0, 1, 2, 3, 4, 5, 6, 7, 8, 9, 11] [0] rfl rfl rfl rfl ?_)
     refine Qe (Qe (Qc (Qa rfl (Qi rfl rfl rfl rfl Ki) ?_)))
     refine Qa rfl (Qj rfl rfl rfl rfl YP (i := 10) rfl rfl) ?_
     refine Qa rfl (Qf rfl rfl rfl rfl rfl (XZ (a := read2.1.Flags) (b := (4 : UInt16)))) ?_
     refine Qa rfl (Qf rfl rfl rfl rfl rfl (KI (a := read2.1.Flags &&& (4 : UInt16)) (b := (0 : UInt16)))) ?_
     refine Qd (tZ [0, 1, 3, 4, 5, 6, 7, 8, 9, 14, 17, 58] [0, 1, 2, 3, 4, 5, 6, 7, 8, 9, 10] [0] rfl rfl rfl rfl ?_)
     rcases bC ((read2.1.Flags &&& (4 : UInt16)) != (0 : UInt16)) with hg5 | hg5
     ·replace h := br_t hg5 h
      refine Ql (cgb hg5) ?_
      refine Qe (Qe (Qc (sMv rfl rfl rfl ?_)))
      refine sMv rfl rfl rfl ?_
      refine Qg rfl rfl rfl rfl rfl ?_
      refine Qg rfl rfl rfl rfl rfl ?_
      refine Qa rfl (Qr rfl rfl rfl rfl rfl) ?_
      refine sMv rfl rfl rfl ?_
      refine Qg rfl rfl rfl rfl rfl ?_
      refine Qg rfl rfl rfl rfl rfl ?_
      refine Qg rfl rfl rfl rfl rfl ?_
      refine Qg rfl rfl rfl rfl rfl ?_
      refine Qa rfl (Qr rfl rfl rfl rfl rfl) ?_
      refine Qd (tZ [4, 5, 8, 17, 69] [0, 1, 2, 3, 4, 5, 6, 7, 8, 10] [0] rfl rfl rfl rfl ?_)
      refine Ql rfl ?_
      refine Qe (Qc (Qa rfl (Qo (cs' := [vI (4 : Int)]) rfl rfl rfl rfl tyF37 (i := 0) rfl rfl rfl (QF rfl) rfl) ?_))
      refine Qd (tZ [] [0, 1, 2, 3, 4, 5, 6, 7, 8] [0] rfl rfl rfl rfl ?_)
      obtain rfl := Option.some.inj h
      exact Qn rfl rfl (resA (vs := []) rfl trivial) [0, 1, 2, 3, 4, 5, 6, 7, 8] [] rfl rfl rfl ⟨v1, rfl, rfl, rfl⟩
     ·replace h := br_f hg5 h
      refine Qp (cgb hg5) ?_
      refine Qt (Qe (QU (by kernel_rfl) ?_))
      refine Xn [0, 0, 2, 0, 8, 0, 32, 126, 254, 511, 1023] (by kernel_rfl) fun htb => ?_
      refine aZ [0, 1, 3, 4, 5, 6, 7, 8, 9, 14, 17] [0, 1, 2, 3, 4, 5, 6, 7, 8, 9, 10] [0] rfl rfl rfl rfl ?_
      obtain ⟨made1, hx3, h⟩ := ob_e h
      refine QW (lo := 0) (hi := 9) htb rfl rfl (by kernel_rfl) (fun c L a w => ∃ (v3 : Value), Sat c ⟨[(0, some (vU64 atp0)), (1, some (vI size)), (3, some (vB true)), (4, some (.pointer (some ⟨b_arg4, 0, none⟩))), (5, some (.pointer (some ⟨bb_arg5, 0, none⟩))), (6, some (.pointer (some ⟨b_arg6, 0, none⟩))), (7, some (.pointer (some ⟨b_arg7, 0, none⟩))), (8, some (.pointer (some ⟨b_arg8, 0, none⟩))), (9, some (.pointer (some ⟨b_arg9, 0, none⟩))), (14, some (.map (some b1))), (17, some (.pointer (some ⟨b2, 0, none⟩))), (87, bif L 0 then some (v1) else none), (88, bif L 1 then some (.pointer (some ⟨b2, 0, none⟩)) else none), (89, bif L 2 then some (vU64 read2.1.Addr) else none), (90, bif L 3 then some (.pointer (some ⟨b2, 1, none⟩)) else none), (91, bif L 4 then some (vU32 read2.1.Len) else none), (92, bif L 5 then some (.pointer (some ⟨b2, 2, none⟩)) else none), (93, bif L 6 then some (vU16 read2.1.Flags) else none), (94, bif L 7 then some (.agg #[vU64 made1.At, vU32 made1.Len, vB made1.Write]) else none), (95, bif L 8 then some (v3) else none)], [(some (Qm b_arg4 37 [vI m1]) : Option Res), (some (Qm bb_arg5 25 [.pointer (some ⟨b_arg5, 0, none⟩)]) : Option Res), (some (Qm b_arg5 113 [varg51, varg52]) : Option Res), (some (QV u8S true varg52 vsarg51 arg5.b none) : Option Res), (some (Qm b_arg6 3 [vI (wi (m2 + (1 : Int)))]) : Option Res), (some (Qm b_arg7 4 [vB m3]) : Option Res), (some (Qm b_arg8 156 [.func (.func 84) #[] #[.pointer (some ⟨b_arg4, 0, none⟩), .pointer (some ⟨bb_arg5, 0, none⟩), .pointer (some ⟨b_arg6, 0, none⟩), .pointer (some ⟨b_arg7, 0, none⟩), .pointer (some ⟨b_arg8, 0, none⟩), .pointer (some ⟨b_arg9, 0, none⟩)]]) : Option Res), (some (Qm b_arg9 41 [v1]) : Option Res), (some (rowS SegS v1 l1) : Option Res), (some (mapR b1 .i64 (fun x : Int => x) vB (mput k1 true map1)) : Option Res), (some (Qm b2 36 [vU64 read2.1.Addr, vU32 read2.1.Len, vU16 read2.1.Flags, vU16 read2.1.Next]) : Option Res), (bif L 8 then some (rowS SegS v3 [made1]) else none : Option Res)], [Fact.sl Qz varg51 arg5.l]⟩ a w) [([], []), ([], [2, 7, 8]), ([1], [7, 8]), ([], [4, 7, 8]), ([3], [7, 8]), ([], [6, 7, 8]), ([5], [7, 8]), ([1, 2, 3, 4, 5, 6], [8]), ([1, 2, 3, 4, 5, 6, 7], [])] rfl (by kernel_rfl) ?_ (Qb ?_ (Qb ?_ (Qb ?_ (Qb ?_ (Qb ?_ (Qb ?_ (Qb ?_ (Qb ?_ (Qb ?_ (QB)))))))))) ?_
      ·intro a w hs
       exact ⟨undef, hs.startF [87, 88, 89, 90, 91, 92, 93, 94, 95] [0, 1, 2, 3, 4, 5, 6, 7, 8, 9, 10, 11] [0] rfl rfl rfl rfl⟩
      ·intro L a w hv K Q hK
       obtain ⟨v3, hs⟩ := hv
       exact wGo rfl rfl hs (Qj rfl rfl rfl rfl tyF41 (i := 7) rfl rfl) fun a w hs => hK a w ⟨v3, pF hs 11 [0, 1, 2, 3, 4, 5, 6, 7, 8, 9, 10, 11] [0] rfl⟩
      ·intro L a w hv K Q hK
       obtain ⟨v3, hs⟩ := hv
       exact wGo rfl rfl hs (Qi rfl rfl rfl rfl fldF36x0) fun a w hs => hK a w ⟨v3, pF hs 12 [0, 1, 2, 3, 4, 5, 6, 7, 8, 9, 10, 11] [0] rfl⟩
      ·intro L a w hv K Q hK
       obtain ⟨v3, hs⟩ := hv
       exact wGo rfl rfl hs (Qj rfl rfl rfl rfl QZ (i := 10) rfl rfl) fun a w hs => hK a w ⟨v3, pF hs 13 [0, 1, 2, 3, 4, 5, 6, 7, 8, 9, 10, 11] [0] rfl⟩
      ·intro L a w hv K Q hK
       obtain ⟨v3, hs⟩ := hv
       exact wGo rfl rfl hs (Qi rfl rfl rfl rfl fldF36x1) fun a w hs => hK a w ⟨v3, pF hs 14 [0, 1, 2, 3, 4, 5, 6, 7, 8, 9, 10, 11] [0] rfl⟩
      ·intro L a w hv K Q hK
       obtain ⟨v3, hs⟩ := hv
       exact wGo rfl rfl hs (Qj rfl rfl rfl rfl tyF33 (i := 10) rfl rfl) fun a w hs => hK a w ⟨v3, pF hs 15 [0, 1, 2, 3, 4, 5, 6, 7, 8, 9, 10, 11] [0] rfl⟩
      ·intro L a w hv K Q hK
       obtain ⟨v3, hs⟩ := hv
       exact wGo rfl rfl hs (Qi rfl rfl rfl rfl Ki) fun a w hs => hK a w ⟨v3, pF hs 16 [0, 1, 2, 3, 4, 5, 6, 7, 8, 9, 10, 11] [0] rfl⟩
      ·intro L a w hv K Q hK
       obtain ⟨v3, hs⟩ := hv
       exact wGo rfl rfl hs (Qj rfl rfl rfl rfl YP (i := 10) rfl rfl) fun a w hs => hK a w ⟨v3, pF hs 17 [0, 1, 2, 3, 4, 5, 6, 7, 8, 9, 10, 11] [0] rfl⟩
      ·intro L a w hv K Q hK
       obtain ⟨v3, hs⟩ := hv
       refine QO rfl rfl hs (Qv (w_walk_made hx3) [] [] rfl rfl rfl rfl rfl callee87 rfl rfl rfl rfl) ?_
       rintro _ ⟨_, _, _, ⟨rfl, rfl, rfl⟩, rfl⟩ a' w' hs'
       exact hK a' w' ⟨v3, hs'.putF (i := 18) rfl [0, 1, 2, 3, 4, 5, 6, 7, 8, 9, 10, 11] [0] rfl rfl rfl rfl⟩
      ·intro L a w hv K Q hK
       obtain ⟨v3, hs⟩ := hv
       refine QO rfl rfl hs (QK (S := SegS) (xs := [made1]) (css := [[vU64 made1.At, vU32 made1.Len, vB made1.Write]]) (cs := [vU64 made1.At, vU32 made1.Len, vB made1.Write]) (e := 46) rfl rfl rfl rfl (bldF slF41 (by decide) (by kernel_rfl)) rfl rfl rfl rfl (Zd (S := SegS) (xs := [made1]) (css := [[vU64 made1.At, vU32 made1.Len, vB made1.Write]]) rfl rfl)) ?_
       rintro _ ⟨v3', rfl⟩ a' w' hs'
       exact hK a' w' ⟨v3', hs'.putF (i := 19) rfl [0, 1, 2, 3, 4, 5, 6, 7, 8, 9, 10, 12] [0] rfl rfl rfl rfl⟩
      ·intro L a w hL hv
       rw [QM hL] at hv
       obtain ⟨v3, hs⟩ := hv
       refine gZ hs [0, 1, 3, 4, 5, 6, 7, 8, 9, 14, 17, 87, 95] [0, 1, 2, 3, 4, 5, 6, 7, 8, 9, 10, 11] [0] rfl rfl rfl rfl ?_
       clear hs hL
       obtain ⟨hc1, h⟩ := ZK h
       refine TA_ex htb (by kernel_rfl) rfl rfl (Zw (S := SegS) rfl rfl rfl rfl rfl rfl slF41 (i := 8) (j := 11) rfl rfl hc1) fun v4 => ?_
       refine Qx htb (by kernel_rfl) rfl rfl (Ym (cs' := [v4]) rfl rfl rfl rfl tyF41 (i := 7) rfl (Jf (i := 8) rfl) rfl rfl) ?_
       refine Zh rfl ?_
       refine tZ [0, 1, 3, 4, 5, 6, 7, 8, 9, 14, 17] [0, 1, 2, 3, 4, 5, 6, 7, 8, 9, 10] [0] rfl rfl rfl rfl ?_
       refine Qe (Qe (Qc (Qa rfl (Qi rfl rfl rfl rfl Ki) ?_)))
       refine Qa rfl (Qj rfl rfl rfl rfl YP (i := 10) rfl rfl) ?_
       refine Qa rfl (Qf rfl rfl rfl rfl rfl (XZ (a := read2.1.Flags) (b := (1 : UInt16)))) ?_
       refine Qa rfl (Qf rfl rfl rfl rfl rfl (bin_eql_u16 (a := read2.1.Flags &&& (1 : UInt16)) (b := (0 : UInt16)))) ?_
       refine Qd (tZ [0, 1, 3, 4, 5, 6, 7, 8, 9, 14, 17, 100] [0, 1, 2, 3, 4, 5, 6, 7, 8, 9, 10] [0] rfl rfl rfl rfl ?_)
       rcases bC ((read2.1.Flags &&& (1 : UInt16)) == (0 : UInt16)) with hg6 | hg6
       ·replace h := br_t hg6 h
        refine Ql (cgb hg6) ?_
        obtain rfl := Option.some.inj h
        exact Qn rfl rfl (resA (vs := []) rfl trivial) [0, 1, 2, 3, 4, 5, 6, 7, 8] [] rfl rfl rfl ⟨v4, rfl, rfl, rfl⟩
       ·replace h := br_f hg6 h
        refine Qp (cgb hg6) ?_
        refine Qt (Qc (Qa rfl (Qi rfl rfl rfl rfl fldF36x3) ?_))
        refine Qa rfl (Qj rfl rfl rfl rfl YP (i := 10) rfl rfl) ?_
        refine Qa rfl (QX rfl rfl rfl rfl (cnv_u16_i (n := read2.1.Next) Try.underlying34 Try.underlying3)) ?_
        refine sAs rfl rfl rfl ?_
        refine Qd (tZ [0, 1, 3, 4, 5, 6, 7, 8, 9, 14, 2] [0, 1, 2, 3, 4, 5, 6, 7, 8, 9] [0] rfl rfl rfl rfl ?_)
        refine Zx ?_
        exact QY (i16 read2.1.Next, m1, wi (m2 + (1 : Int)), m3, l1 ++ [made1], mput k1 true map1, v4) h [0, 1, 2, 3, 4, 5, 6, 7, 8, 9, 14] [0, 1, 2, 3, 4, 5, 6, 7, 8, 9] [0] rfl rfl rfl rfl rfl

set_option maxRecDepth 100000 in
set_option maxHeartbeats 4000000 in
theorem w_walk_split_1cf3 {atp0 : UInt64} {size : Int} {kp2 : Int} {arg4 : Int} {arg5 : gmem_Mem} {arg6 : Int} {arg7 : Bool} {arg9 : List Seg} {b_arg4 : Nat} {b_arg5 : Nat} {varg51 : Value} {varg52 : Value} {vsarg51 : List Value} {bb_arg5 : Nat} {b_arg6 : Nat} {b_arg7 : Nat} {b_arg8 : Nat} {b_arg9 : Nat} {varg91 : Value} {r : (Int × Int × Bool × (List Seg))} (h : KT atp0 size kp2 arg4 arg5 arg6 arg7 arg9 = some r) :
  Ctr Try.prog 84 #[vU64 atp0, vI size, vI kp2, vB false, .pointer (some ⟨b_arg4, 0, none⟩), .pointer (some ⟨bb_arg5, 0, none⟩), .pointer (some ⟨b_arg6, 0, none⟩), .pointer (some ⟨b_arg7, 0, none⟩), .pointer (some ⟨b_arg8, 0, none⟩), .pointer (some ⟨b_arg9, 0, none⟩)] [(Qm b_arg4 37 [vI arg4]), (Qm bb_arg5 25 [.pointer (some ⟨b_arg5, 0, none⟩)]), (Qm b_arg5 113 [varg51, varg52]), (QV u8S true varg52 vsarg51 arg5.b none), (Qm b_arg6 3 [vI arg6]), (Qm b_arg7 4 [vB arg7]), (Qm b_arg8 156 [.func (.func 84) #[] #[.pointer (some ⟨b_arg4, 0, none⟩), .pointer (some ⟨bb_arg5, 0, none⟩), .pointer (some ⟨b_arg6, 0, none⟩), .pointer (some ⟨b_arg7, 0, none⟩), .pointer (some ⟨b_arg8, 0, none⟩), .pointer (some ⟨b_arg9, 0, none⟩)]]), (Qm b_arg9 41 [varg91]), (rowS SegS varg91 arg9)] [Fact.sl Qz varg51 arg5.l]
   (fun rv own shr => ∃ (w1 : Value), rv = .tuple #[] ∧ own = [(Qm b_arg4 37 [vI r.1]), (Qm bb_arg5 25 [.pointer (some ⟨b_arg5, 0, none⟩)]), (Qm b_arg5 113 [varg51, varg52]), (QV u8S true varg52 vsarg51 arg5.b none), (Qm b_arg6 3 [vI r.2.1]), (Qm b_arg7 4 [vB r.2.2.1]), (Qm b_arg8 156 [.func (.func 84) #[] #[.pointer (some ⟨b_arg4, 0, none⟩), .pointer (some ⟨bb_arg5, 0, none⟩), .pointer (some ⟨b_arg6, 0, none⟩), .pointer (some ⟨b_arg7, 0, none⟩), .pointer (some ⟨b_arg8, 0, none⟩), .pointer (some ⟨b_arg9, 0, none⟩)]]), (Qm b_arg9 41 [w1]), (rowS SegS w1 r.2.2.2)] ∧ shr = []) := by
 unfold KT at h
 refine Ctr.mk (args := [vU64 atp0, vI size, vI kp2, vB false, .pointer (some ⟨b_arg4, 0, none⟩), .pointer (some ⟨bb_arg5, 0, none⟩), .pointer (some ⟨b_arg6, 0, none⟩), .pointer (some ⟨b_arg7, 0, none⟩), .pointer (some ⟨b_arg8, 0, none⟩), .pointer (some ⟨b_arg9, 0, none⟩)]) Try.func84 rfl rfl (fun R0 w0 B => ?_)
 refine Qe (Qc (Qu rfl (OpT_makeMap .i64 (fun x : Int => x) vB rfl rfl rfl) fun b1 => ?_))
 refine sAs rfl rfl rfl ?_
 refine Qd (tZ [0, 1, 2, 3, 4, 5, 6, 7, 8, 9, 14] [0, 1, 2, 3, 4, 5, 6, 7, 8, 9] [0] rfl rfl rfl rfl ?_)
 refine QC (Zf (σ := Int × Int × Int × Bool × (List Seg) × (List (Int × Bool)) × Value) [0, 1, 2, 3, 4, 5, 6, 7, 8, 9, 14] [0, 1, 2, 3, 4, 5, 6, 7, 8, 9] [0] (fun s => ⟨[(0, some (vU64 atp0)), (1, some (vI size)), (2, some (vI s.1)), (3, some (vB false)), (4, some (.pointer (some ⟨b_arg4, 0, none⟩))), (5, some (.pointer (some ⟨bb_arg5, 0, none⟩))), (6, some (.pointer (some ⟨b_arg6, 0, none⟩))), (7, some (.pointer (some ⟨b_arg7, 0, none⟩))), (8, some (.pointer (some ⟨b_arg8, 0, none⟩))), (9, some (.pointer (some ⟨b_arg9, 0, none⟩))), (14, some (.map (some b1)))], [some (Qm b_arg4 37 [vI s.2.1]), some (Qm bb_arg5 25 [.pointer (some ⟨b_arg5, 0, none⟩)]), some (Qm b_arg5 113 [varg51, varg52]), some (QV u8S true varg52 vsarg51 arg5.b none), some (Qm b_arg6 3 [vI s.2.2.1]), some (Qm b_arg7 4 [vB s.2.2.2.1]), some (Qm b_arg8 156 [.func (.func 84) #[] #[.pointer (some ⟨b_arg4, 0, none⟩), .pointer (some ⟨bb_arg5, 0, none⟩), .pointer (some ⟨b_arg6, 0, none⟩), .pointer (some ⟨b_arg7, 0, none⟩), .pointer (some ⟨b_arg8, 0, none⟩), .pointer (some ⟨b_arg9, 0, none⟩)]]), some (Qm b_arg9 41 [s.2.2.2.2.2.2]), some (rowS SegS s.2.2.2.2.2.2 s.2.2.2.2.1), some (mapR b1 .i64 (fun x : Int => x) vB s.2.2.2.2.2.1)], [Fact.sl Qz varg51 arg5.l]⟩) (fun nf1 s => XG atp0 size arg5 nf1 s.1 s.2.1 s.2.2.1 s.2.2.2.1 s.2.2.2.2.1 s.2.2.2.2.2.1 = some r) fuel (kp2, arg4, arg6, arg7, arg9, ([] : List (Int × Bool)), varg91) h rfl rfl rfl rfl rfl (fun s h => by cases h) ?_)
 rintro nf1 ⟨k1, m1, m2, m3, l1, map1, v1⟩ h
 replace h : YN atp0 size arg5 (XG atp0 size arg5 nf1) k1 m1 m2 m3 l1 map1 = some r := h
 unfold YN at h
 refine QC (Qe (Qe (Qc (sMv rfl rfl rfl ?_))))
 refine sMv rfl rfl rfl ?_
 refine Qa rfl (OpT_lookup keyI (V := vB) (kx := k1) (z := false) rfl rfl rfl rfl rfl Try.underlying157 Try.underlying3 tyZ4 (i := 9) rfl) ?_
 refine sMv rfl rfl rfl ?_
 rcases bC (mget false k1 map1) with hg1 | hg1
 ·replace h := br_t hg1 h
  refine Qg rfl rfl (cgb hg1) rfl rfl ?_
  refine Qg rfl rfl (cgb hg1) rfl rfl ?_
  refine Qa rfl (Qr rfl rfl rfl (cgb hg1) rfl) ?_
  refine sMv rfl rfl rfl ?_
  refine Qg rfl rfl rfl rfl rfl ?_
  refine Qg rfl rfl rfl rfl rfl ?_
  refine Qg rfl rfl rfl rfl rfl ?_
  refine Qa rfl (Qr rfl rfl rfl rfl rfl) ?_
  refine Qd (tZ [0, 1, 2, 3, 4, 5, 6, 7, 8, 9, 14, 33] [0, 1, 2, 3, 4, 5, 6, 7, 8, 9] [0] rfl rfl rfl rfl ?_)
  refine Ql rfl ?_
  refine Qe (Qc (Qa rfl (Qo (cs' := [vI (4 : Int)]) rfl rfl rfl rfl tyF37 (i := 0) rfl rfl rfl (QF rfl) rfl) ?_))
  refine Qd (tZ [] [0, 1, 2, 3, 4, 5, 6, 7, 8] [0] rfl rfl rfl rfl ?_)
  obtain rfl := Option.some.inj h
  exact Qn rfl rfl (resA (vs := []) rfl trivial) [0, 1, 2, 3, 4, 5, 6, 7, 8] [] rfl rfl rfl ⟨v1, rfl, rfl, rfl⟩
 ·replace h := br_f hg1 h
  refine Qh rfl rfl (cgb hg1) (Qk rfl rfl rfl rfl) ?_
  rintro _ rfl
  refine Qh rfl rfl (cgb hg1) (Qf rfl rfl rfl rfl rfl (QI (a := k1) (b := (0 : Int)))) ?_
  rintro _ rfl
  refine Qa rfl (Qw rfl rfl rfl (cgb hg1) rfl) ?_
  refine sMv rfl rfl rfl ?_
  rcases bC (decide (k1 < (0 : Int))) with hg2 | hg2
  ·replace h := br_t hg2 h
   refine Qg rfl rfl (cgb hg2) rfl rfl ?_
   refine Qg rfl rfl (cgb hg2) rfl rfl ?_
   refine Qg rfl rfl (cgb hg2) rfl rfl ?_
   refine Qa rfl (Qr rfl rfl rfl (cgb hg2) rfl) ?_
   refine Qd (tZ [0, 1, 2, 3, 4, 5, 6, 7, 8, 9, 14, 33] [0, 1, 2, 3, 4, 5, 6, 7, 8, 9] [0] rfl rfl rfl rfl ?_)
   refine Ql rfl ?_
   refine Qe (Qc (Qa rfl (Qo (cs' := [vI (4 : Int)]) rfl rfl rfl rfl tyF37 (i := 0) rfl rfl rfl (QF rfl) rfl) ?_))
   refine Qd (tZ [] [0, 1, 2, 3, 4, 5, 6, 7, 8] [0] rfl rfl rfl rfl ?_)
   obtain rfl := Option.some.inj h
   exact Qn rfl rfl (resA (vs := []) rfl trivial) [0, 1, 2, 3, 4, 5, 6, 7, 8] [] rfl rfl rfl ⟨v1, rfl, rfl, rfl⟩
  ·replace h := br_f hg2 h
   refine Qh rfl rfl (cgb hg2) (Qk rfl rfl rfl rfl) ?_
   rintro _ rfl
   refine Qh rfl rfl (cgb hg2) (Qk rfl rfl rfl rfl) ?_
   rintro _ rfl
   refine Qh rfl rfl (cgb hg2) (Qf rfl rfl rfl rfl rfl (YF (a := k1) (b := size))) ?_
   rintro _ rfl
   refine Qa rfl (Qw rfl rfl rfl (cgb hg2) rfl) ?_
   refine Qd (tZ [0, 1, 2, 3, 4, 5, 6, 7, 8, 9, 14, 33] [0, 1, 2, 3, 4, 5, 6, 7, 8, 9] [0] rfl rfl rfl rfl ?_)
   rcases bC (decide (k1 ≥ size)) with hg3 | hg3
   ·replace h := br_t hg3 h
    refine Ql (cgb hg3) ?_
    refine Qe (Qc (Qa rfl (Qo (cs' := [vI (4 : Int)]) rfl rfl rfl rfl tyF37 (i := 0) rfl rfl rfl (QF rfl) rfl) ?_))
    refine Qd (tZ [] [0, 1, 2, 3, 4, 5, 6, 7, 8] [0] rfl rfl rfl rfl ?_)
    obtain rfl := Option.some.inj h
    exact Qn rfl rfl (resA (vs := []) rfl trivial) [0, 1, 2, 3, 4, 5, 6, 7, 8] [] rfl rfl rfl ⟨v1, rfl, rfl, rfl⟩
   ·replace h := br_f hg3 h
    refine Qp (cgb hg3) ?_
    refine Qt (Qe (Qc (sMv rfl rfl rfl ?_)))
    refine sMv rfl rfl rfl ?_
    refine Qa rfl (OpT_mapUpdate keyI k1 true (V := vB) (z := false) rfl rfl rfl rfl rfl rfl Try.underlying157 Try.underlying3 (i := 9) rfl rfl) ?_
    refine Qd (tZ [0, 1, 2, 3, 4, 5, 6, 7, 8, 9, 14] [0, 1, 2, 3, 4, 5, 6, 7, 8, 9] [0] rfl rfl rfl rfl ?_)
    refine Qe (Qc (Qa rfl (Qj rfl rfl rfl rfl tyF25 (i := 1) rfl rfl) ?_))
    refine sMv rfl rfl rfl ?_
    refine sMv rfl rfl rfl ?_
    refine Qa rfl (QX rfl rfl rfl rfl (Xw (n := k1) Try.underlying3 Try.underlying27)) ?_
    refine Qa rfl (Qf rfl rfl rfl rfl rfl (ZQ (a := (16 : UInt64)) (b := u64 k1))) ?_
    refine Qa rfl (Qf rfl rfl rfl rfl rfl (Za (a := atp0) (b := (16 : UInt64) * (u64 k1)))) ?_
    obtain ⟨YQ, hx1, h⟩ := ob_e h
    refine Qs rfl (QJ [0, 1, 10, 11, 4, 5, 6, 7, 8, 9, 12] (Yg hx1) [2, 3] [0] rfl rfl rfl rfl rfl callee82 rfl rfl rfl rfl rfl) ?_
    rintro _ ⟨_, _, _, ⟨v2, rfl, rfl, rfl⟩, rfl⟩
    refine sMv rfl rfl rfl ?_
    refine Qa rfl (Qq rfl rfl rfl rfl rfl) ?_
    refine Qa rfl (Qq rfl rfl rfl rfl rfl) ?_
    refine sAs rfl rfl rfl ?_
    refine sAs rfl rfl rfl ?_
    refine Qd (tZ [0, 1, 3, 4, 5, 6, 7, 8, 9, 14, 15, 16] [0, 1, 2, 3, 4, 5, 6, 7, 8, 9, 10] [0] rfl rfl rfl rfl ?_)
    refine Qe (Qe (Qc (sMv rfl rfl rfl ?_)))
    refine Qa rfl (Qf rfl rfl rfl rfl rfl (QL (a := YQ.2) (b := (0 : Int)))) ?_
    refine Qd (tZ [0, 1, 3, 4, 5, 6, 7, 8, 9, 14, 15, 47] [0, 1, 2, 3, 4, 5, 6, 7, 8, 9, 10] [0] rfl rfl rfl rfl ?_)
    rcases bC (YQ.2 != (0 : Int)) with hg4 | hg4
    ·replace h := br_t hg4 h
     refine Ql (cgb hg4) ?_
     refine Qe (Qc (Qa rfl (Qo (cs' := [vI (5 : Int)]) rfl rfl rfl rfl tyF37 (i := 0) rfl rfl rfl (QF rfl) rfl) ?_))
     refine Qd (tZ [] [0, 1, 2, 3, 4, 5, 6, 7, 8] [0] rfl rfl rfl rfl ?_)
     obtain rfl := Option.some.inj h
     exact Qn rfl rfl (resA (vs := []) rfl trivial) [0, 1, 2, 3, 4, 5, 6, 7, 8] [] rfl rfl rfl ⟨v1, rfl, rfl, rfl⟩
    ·replace h := br_f hg4 h
     refine Qp (cgb hg4) ?_
     refine Qt (Qe (Qc (Qa rfl (Qj rfl rfl rfl rfl tyF3 (i := 4) rfl rfl) ?_)))
     refine Qa rfl (Qf rfl rfl rfl rfl rfl (QG (a := m2) (b := (1 : Int)))) ?_
     refine Qa rfl (Qo (cs' := [vI (wi (m2 + (1 : Int)))]) rfl rfl rfl rfl tyF3 (i := 4) rfl rfl rfl (QF rfl) rfl) ?_
     refine Qd (tZ [0, 1, 3, 4, 5, 6, 7, 8, 9, 14, 15] [0, 1, 2, 3, 4, 5, 6, 7, 8, 9, 10] [0] rfl rfl rfl rfl ?_)
     refine Qe (Qc (sMv rfl rfl rfl ?_))
     obtain ⟨read2, hx2, h⟩ := ob_e h
     refine Qs rfl (Zu [10] [0, 1, 2, 3, 4, 5, 6, 7, 8, 9, 10] (w_desc_Read hx2) [] rfl rfl rfl rfl rfl callee85 rfl rfl rfl rfl rfl rfl (Zl (Xa 10 rfl rfl) ZZ) (by rintro _ _ _ ⟨rfl, rfl, rfl⟩; exact ⟨rfl, XS⟩)) ?_
     rintro _ ⟨_, _, _, ⟨rfl, rfl, rfl⟩, rfl⟩
     refine sMv rfl rfl rfl ?_
     refine Qa rfl (Qq rfl rfl rfl rfl rfl) ?_
     refine Qa rfl (Qq rfl rfl rfl rfl rfl) ?_
     refine Qu rfl (QD rfl rfl rfl tyZ36) fun b2 => ?_
     refine Qa rfl (Qo (cs' := [vU64 read2.1.Addr, vU32 read2.1.Len, vU16 read2.1.Flags, vU16 read2.1.Next]) rfl rfl rfl rfl tyF36 (i := 11) rfl rfl rfl (QF rfl) rfl) ?_
     refine sAs rfl rfl rfl ?_
     refine Qd (tZ [0, 1, 3, 4, 5, 6, 7, 8, 9, 14, 17] [0, 1, 2, 3, 4, 5, 6, 7, 8, 9, 11] [0] rfl rfl rfl rfl ?_)
     refine Qe (Qe (Qc (Qa rfl (Qi rfl rfl rfl rfl Ki) ?_)))
     refine Qa rfl (Qj rfl rfl rfl rfl YP (i := 10) rfl rfl) ?_
     refine Qa rfl (Qf rfl rfl rfl rfl rfl (XZ (a := read2.1.Flags) (b := (4 : UInt16)))) ?_
     refine Qa rfl (Qf rfl rfl rfl rfl rfl (KI (a := read2.1.Flags &&& (4 : UInt16)) (b := (0 : UInt16)))) ?_
     refine Qd (tZ [0, 1, 3, 4, 5, 6, 7, 8, 9, 14, 17, 58] [0, 1, 2, 3, 4, 5, 6, 7, 8, 9, 10] [0] rfl rfl rfl rfl ?_)
     rcases bC ((read2.1.Flags &&& (4 : UInt16)) != (0 : UInt16)) with hg5 | hg5
     ·replace h := br_t hg5 h
      refine Ql (cgb hg5) ?_
      refine Qe (Qe (Qc (sMv rfl rfl rfl ?_)))
      refine sMv rfl rfl rfl ?_
      refine Qh rfl rfl rfl (Qj rfl rfl rfl rfl tyF4 (i := 5) rfl rfl) ?_
      rintro _ rfl
      refine Qh rfl rfl rfl (XO rfl rfl rfl rfl) ?_
      rintro _ rfl
      refine Qa rfl (Qw rfl rfl rfl rfl rfl) ?_
      refine sMv rfl rfl rfl ?_
      rcases bC ((!m3)) with hg6 | hg6
      ·replace h := br_t hg6 h
       refine Qg rfl rfl (cgb hg6) rfl rfl ?_
       refine Qg rfl rfl (cgb hg6) rfl rfl ?_
       refine Qg rfl rfl (cgb hg6) rfl rfl ?_
       refine Qg rfl rfl (cgb hg6) rfl rfl ?_
       refine Qa rfl (Qr rfl rfl rfl (cgb hg6) rfl) ?_
       refine Qd (tZ [4, 5, 8, 17, 69] [0, 1, 2, 3, 4, 5, 6, 7, 8, 10] [0] rfl rfl rfl rfl ?_)
       refine Ql rfl ?_
       refine Qe (Qc (Qa rfl (Qo (cs' := [vI (4 : Int)]) rfl rfl rfl rfl tyF37 (i := 0) rfl rfl rfl (QF rfl) rfl) ?_))
       refine Qd (tZ [] [0, 1, 2, 3, 4, 5, 6, 7, 8] [0] rfl rfl rfl rfl ?_)
       obtain rfl := Option.some.inj h
       exact Qn rfl rfl (resA (vs := []) rfl trivial) [0, 1, 2, 3, 4, 5, 6, 7, 8] [] rfl rfl rfl ⟨v1, rfl, rfl, rfl⟩
      ·replace h := br_f hg6 h
       refine Qh rfl rfl (cgb hg6) (Qi rfl rfl rfl rfl Ki) ?_
       rintro _ rfl
       refine Qh rfl rfl (cgb hg6) (Qj rfl rfl rfl rfl YP (i := 10) rfl rfl) ?_
       rintro _ rfl
       refine Qh rfl rfl (cgb hg6) (Qf rfl rfl rfl rfl rfl (XZ (a := read2.1.Flags) (b := (1 : UInt16)))) ?_
       rintro _ rfl
       refine Qh rfl rfl (cgb hg6) (Qf rfl rfl rfl rfl rfl (KI (a := read2.1.Flags &&& (1 : UInt16)) (b := (0 : UInt16)))) ?_
       rintro _ rfl
       refine Qa rfl (Qw rfl rfl rfl (cgb hg6) rfl) ?_
       refine Qd (tZ [4, 5, 8, 17, 69] [0, 1, 2, 3, 4, 5, 6, 7, 8, 10] [0] rfl rfl rfl rfl ?_)
       rcases bC ((read2.1.Flags &&& (1 : UInt16)) != (0 : UInt16)) with hg7 | hg7
       ·replace h := br_t hg7 h
        refine Ql (cgb hg7) ?_
        refine Qe (Qc (Qa rfl (Qo (cs' := [vI (4 : Int)]) rfl rfl rfl rfl tyF37 (i := 0) rfl rfl rfl (QF rfl) rfl) ?_))
        refine Qd (tZ [] [0, 1, 2, 3, 4, 5, 6, 7, 8] [0] rfl rfl rfl rfl ?_)
        obtain rfl := Option.some.inj h
        exact Qn rfl rfl (resA (vs := []) rfl trivial) [0, 1, 2, 3, 4, 5, 6, 7, 8] [] rfl rfl rfl ⟨v1, rfl, rfl, rfl⟩
       ·replace h := br_f hg7 h
        refine Qp (cgb hg7) ?_
        refine Qt (Qe (Qc (Qa rfl (Qj rfl rfl rfl rfl tyF25 (i := 1) rfl rfl) ?_)))
        refine Qa rfl (Qi rfl rfl rfl rfl fldF36x0) ?_
        refine Qa rfl (Qj rfl rfl rfl rfl QZ (i := 9) rfl rfl) ?_
        refine Qa rfl (Qi rfl rfl rfl rfl fldF36x1) ?_
        refine Qa rfl (Qj rfl rfl rfl rfl tyF33 (i := 9) rfl rfl) ?_
        obtain ⟨entrie1, hx3, h⟩ := ob_e h
        refine Qs rfl (QJ [0, 1, 10, 11, 4, 5, 6, 7, 8, 9] (w_walk_entries hx3) [2, 3] [0] rfl rfl rfl rfl rfl callee86 rfl rfl rfl rfl rfl) ?_
        rintro _ ⟨_, _, _, ⟨rfl, rfl, rfl⟩, rfl⟩
        refine sMv rfl rfl rfl ?_
        refine Qa rfl (Qq rfl rfl rfl rfl rfl) ?_
        refine Qa rfl (Qq rfl rfl rfl rfl rfl) ?_
        refine sAs rfl rfl rfl ?_
        refine sAs rfl rfl rfl ?_
        refine Qd (tZ [4, 8, 17, 19, 20] [0, 1, 2, 3, 4, 5, 6, 7, 8, 9] [0] rfl rfl rfl rfl ?_)
        refine Qe (Qe (Qc (sMv rfl rfl rfl ?_)))
        refine Qa rfl (Qo (cs' := [vI entrie1.2]) rfl rfl rfl rfl tyF37 (i := 0) rfl rfl rfl (QF rfl) rfl) ?_
        refine Qd (tZ [4, 8, 17, 19] [0, 1, 2, 3, 4, 5, 6, 7, 8, 9] [0] rfl rfl rfl rfl ?_)
        refine Qe (Qc (Qa rfl (Qj rfl rfl rfl rfl tyF37 (i := 0) rfl rfl) ?_))
        refine Qa rfl (Qf rfl rfl rfl rfl rfl (ZG (a := entrie1.2) (b := (0 : Int)))) ?_
        refine Qd (tZ [8, 17, 19, 81] [0, 1, 2, 3, 4, 5, 6, 7, 8, 9] [0] rfl rfl rfl rfl ?_)
        refine Tk_join (α := Int × Int × Bool × (List Seg) × Value) (fun s => ⟨[], [some (Qm b_arg4 37 [vI s.1]), some (Qm bb_arg5 25 [.pointer (some ⟨b_arg5, 0, none⟩)]), some (Qm b_arg5 113 [varg51, varg52]), some (QV u8S true varg52 vsarg51 arg5.b none), some (Qm b_arg6 3 [vI s.2.1]), some (Qm b_arg7 4 [vB s.2.2.1]), some (Qm b_arg8 156 [.func (.func 84) #[] #[.pointer (some ⟨b_arg4, 0, none⟩), .pointer (some ⟨bb_arg5, 0, none⟩), .pointer (some ⟨b_arg6, 0, none⟩), .pointer (some ⟨b_arg7, 0, none⟩), .pointer (some ⟨b_arg8, 0, none⟩), .pointer (some ⟨b_arg9, 0, none⟩)]]), some (Qm b_arg9 41 [s.2.2.2.2]), some (rowS SegS s.2.2.2.2 s.2.2.2.1)], [Fact.sl Qz varg51 arg5.l]⟩) (fun s => XH s.1 s.2.1 s.2.2.1 s.2.2.2.1 = some r) ?_ ?_
        ·rintro ⟨m4, m5, m6, l2, v3⟩ h
         replace h : XH m4 m5 m6 l2 = some r := h
         unfold XH at h
         obtain rfl := Option.some.inj h
         exact Qn rfl rfl (resA (vs := []) rfl trivial) [0, 1, 2, 3, 4, 5, 6, 7, 8] [] rfl rfl rfl ⟨v3, rfl, rfl, rfl⟩
        ·intro HJ1
         rcases bC (entrie1.2 == (0 : Int)) with hg8 | hg8
         ·replace h := br_t hg8 h
          refine Ql (cgb hg8) ?_
          refine Qc (Qa rfl (Qj rfl rfl rfl rfl tyF156 (i := 6) rfl rfl) ?_)
          refine Qa rfl (Qi rfl rfl rfl rfl fldF36x0) ?_
          refine Qa rfl (Qj rfl rfl rfl rfl QZ (i := 9) rfl rfl) ?_
          refine sMv rfl rfl rfl ?_
          obtain ⟨split1, hx4, h⟩ := ob_e h
          refine Qs rfl (QJ [10, 11, 12, 13, 14, 15, 16, 17, 18, 9] (w_walk_split_1ct3 hx4) [0, 1, 2, 3, 4, 5, 6, 7, 8] [0] rfl rfl rfl rfl rfl callee84 rfl rfl rfl rfl rfl) ?_
          rintro _ ⟨_, _, _, ⟨v4, rfl, rfl, rfl⟩, rfl⟩
          refine Qd (tZ [] [0, 1, 2, 3, 4, 5, 6, 7, 8] [0] rfl rfl rfl rfl ?_)
          exact XA (HJ1 (split1.1, split1.2.1, split1.2.2.1, split1.2.2.2, v4) h) [] [0, 1, 2, 3, 4, 5, 6, 7, 8] [0] rfl rfl rfl rfl
         ·replace h := br_f hg8 h
          refine Qp (cgb hg8) ?_
          refine Qt ?_
          exact XA (HJ1 (entrie1.2, wi (m2 + (1 : Int)), m3, l1, v1) h) [] [0, 1, 2, 3, 4, 5, 6, 7, 8] [0] rfl rfl rfl rfl
     ·replace h := br_f hg5 h
      refine Qp (cgb hg5) ?_
      refine Qt (Qe (QU (by kernel_rfl) ?_))
      refine Xn [0, 0, 2, 0, 8, 0, 32, 126, 254, 511, 1023] (by kernel_rfl) fun htb => ?_
      refine aZ [0, 1, 3, 4, 5, 6, 7, 8, 9, 14, 17] [0, 1, 2, 3, 4, 5, 6, 7, 8, 9, 10] [0] rfl rfl rfl rfl ?_
      obtain ⟨made1, hx5, h⟩ := ob_e h
      refine QW (lo := 0) (hi := 9) htb rfl rfl (by kernel_rfl) (fun c L a w => ∃ (v5 : Value), Sat c ⟨[(0, some (vU64 atp0)), (1, some (vI size)), (3, some (vB false)), (4, some (.pointer (some ⟨b_arg4, 0, none⟩))), (5, some (.pointer (some ⟨bb_arg5, 0, none⟩))), (6, some (.pointer (some ⟨b_arg6, 0, none⟩))), (7, some (.pointer (some ⟨b_arg7, 0, none⟩))), (8, some (.pointer (some ⟨b_arg8, 0, none⟩))), (9, some (.pointer (some ⟨b_arg9, 0, none⟩))), (14, some (.map (some b1))), (17, some (.pointer (some ⟨b2, 0, none⟩))), (87, bif L 0 then some (v1) else none), (88, bif L 1 then some (.pointer (some ⟨b2, 0, none⟩)) else none), (89, bif L 2 then some (vU64 read2.1.Addr) else none), (90, bif L 3 then some (.pointer (some ⟨b2, 1, none⟩)) else none), (91, bif L 4 then some (vU32 read2.1.Len) else none), (92, bif L 5 then some (.pointer (some ⟨b2, 2, none⟩)) else none), (93, bif L 6 then some (vU16 read2.1.Flags) else none), (94, bif L 7 then some (.agg #[vU64 made1.At, vU32 made1.Len, vB made1.Write]) else none), (95, bif L 8 then some (v5) else none)], [(some (Qm b_arg4 37 [vI m1]) : Option Res), (some (Qm bb_arg5 25 [.pointer (some ⟨b_arg5, 0, none⟩)]) : Option Res), (some (Qm b_arg5 113 [varg51, varg52]) : Option Res), (some (QV u8S true varg52 vsarg51 arg5.b none) : Option Res), (some (Qm b_arg6 3 [vI (wi (m2 + (1 : Int)))]) : Option Res), (some (Qm b_arg7 4 [vB m3]) : Option Res), (some (Qm b_arg8 156 [.func (.func 84) #[] #[.pointer (some ⟨b_arg4, 0, none⟩), .pointer (some ⟨bb_arg5, 0, none⟩), .pointer (some ⟨b_arg6, 0, none⟩), .pointer (some ⟨b_arg7, 0, none⟩), .pointer (some ⟨b_arg8, 0, none⟩), .pointer (some ⟨b_arg9, 0, none⟩)]]) : Option Res), (some (Qm b_arg9 41 [v1]) : Option Res), (some (rowS SegS v1 l1) : Option Res), (some (mapR b1 .i64 (fun x : Int => x) vB (mput k1 true map1)) : Option Res), (some (Qm b2 36 [vU64 read2.1.Addr, vU32 read2.1.Len, vU16 read2.1.Flags, vU16 read2.1.Next]) : Option Res), (bif L 8 then some (rowS SegS v5 [made1]) else none : Option Res)], [Fact.sl Qz varg51 arg5.l]⟩ a w) [([], []), ([], [2, 7, 8]), ([1], [7, 8]), ([], [4, 7, 8]), ([3], [7, 8]), ([], [6, 7, 8]), ([5], [7, 8]), ([1, 2, 3, 4, 5, 6], [8]), ([1, 2, 3, 4, 5, 6, 7], [])] rfl (by kernel_rfl) ?_ (Qb ?_ (Qb ?_ (Qb ?_ (Qb ?_ (Qb ?_ (Qb ?_ (Qb ?_ (Qb ?_ (Qb ?_ (QB)))))))))) ?_
      ·intro a w hs
       exact ⟨undef, hs.startF [87, 88, 89, 90, 91, 92, 93, 94, 95] [0, 1, 2, 3, 4, 5, 6, 7, 8, 9, 10, 11] [0] rfl rfl rfl rfl⟩
      ·intro L a w hv K Q hK
       obtain ⟨v5, hs⟩ := hv
       exact wGo rfl rfl hs (Qj rfl rfl rfl rfl tyF41 (i := 7) rfl rfl) fun a w hs => hK a w ⟨v5, pF hs 11 [0, 1, 2, 3, 4, 5, 6, 7, 8, 9, 10, 11] [0] rfl⟩
      ·intro L a w hv K Q hK
       obtain ⟨v5, hs⟩ := hv
       exact wGo rfl rfl hs (Qi rfl rfl rfl rfl fldF36x0) fun a w hs => hK a w ⟨v5, pF hs 12 [0, 1, 2, 3, 4, 5, 6, 7, 8, 9, 10, 11] [0] rfl⟩
      ·intro L a w hv K Q hK
       obtain ⟨v5, hs⟩ := hv
       exact wGo rfl rfl hs (Qj rfl rfl rfl rfl QZ (i := 10) rfl rfl) fun a w hs => hK a w ⟨v5, pF hs 13 [0, 1, 2, 3, 4, 5, 6, 7, 8, 9, 10, 11] [0] rfl⟩
      ·intro L a w hv K Q hK
       obtain ⟨v5, hs⟩ := hv
       exact wGo rfl rfl hs (Qi rfl rfl rfl rfl fldF36x1) fun a w hs => hK a w ⟨v5, pF hs 14 [0, 1, 2, 3, 4, 5, 6, 7, 8, 9, 10, 11] [0] rfl⟩
      ·intro L a w hv K Q hK
       obtain ⟨v5, hs⟩ := hv
       exact wGo rfl rfl hs (Qj rfl rfl rfl rfl tyF33 (i := 10) rfl rfl) fun a w hs => hK a w ⟨v5, pF hs 15 [0, 1, 2, 3, 4, 5, 6, 7, 8, 9, 10, 11] [0] rfl⟩
      ·intro L a w hv K Q hK
       obtain ⟨v5, hs⟩ := hv
       exact wGo rfl rfl hs (Qi rfl rfl rfl rfl Ki) fun a w hs => hK a w ⟨v5, pF hs 16 [0, 1, 2, 3, 4, 5, 6, 7, 8, 9, 10, 11] [0] rfl⟩
      ·intro L a w hv K Q hK
       obtain ⟨v5, hs⟩ := hv
       exact wGo rfl rfl hs (Qj rfl rfl rfl rfl YP (i := 10) rfl rfl) fun a w hs => hK a w ⟨v5, pF hs 17 [0, 1, 2, 3, 4, 5, 6, 7, 8, 9, 10, 11] [0] rfl⟩
      ·intro L a w hv K Q hK
       obtain ⟨v5, hs⟩ := hv
       refine QO rfl rfl hs (Qv (w_walk_made hx5) [] [] rfl rfl rfl rfl rfl callee87 rfl rfl rfl rfl) ?_
       rintro _ ⟨_, _, _, ⟨rfl, rfl, rfl⟩, rfl⟩ a' w' hs'
       exact hK a' w' ⟨v5, hs'.putF (i := 18) rfl [0, 1, 2, 3, 4, 5, 6, 7, 8, 9, 10, 11] [0] rfl rfl rfl rfl⟩
      ·intro L a w hv K Q hK
       obtain ⟨v5, hs⟩ := hv
       refine QO rfl rfl hs (QK (S := SegS) (xs := [made1]) (css := [[vU64 made1.At, vU32 made1.Len, vB made1.Write]]) (cs := [vU64 made1.At, vU32 made1.Len, vB made1.Write]) (e := 46) rfl rfl rfl rfl (bldF slF41 (by decide) (by kernel_rfl)) rfl rfl rfl rfl (Zd (S := SegS) (xs := [made1]) (css := [[vU64 made1.At, vU32 made1.Len, vB made1.Write]]) rfl rfl)) ?_
       rintro _ ⟨v5', rfl⟩ a' w' hs'
       exact hK a' w' ⟨v5', hs'.putF (i := 19) rfl [0, 1, 2, 3, 4, 5, 6, 7, 8, 9, 10, 12] [0] rfl rfl rfl rfl⟩
      ·intro L a w hL hv
       rw [QM hL] at hv
       obtain ⟨v5, hs⟩ := hv
       refine gZ hs [0, 1, 3, 4, 5, 6, 7, 8, 9, 14, 17, 87, 95] [0, 1, 2, 3, 4, 5, 6, 7, 8, 9, 10, 11] [0] rfl rfl rfl rfl ?_
       clear hs hL
       obtain ⟨hc1, h⟩ := ZK h
       refine TA_ex htb (by kernel_rfl) rfl rfl (Zw (S := SegS) rfl rfl rfl rfl rfl rfl slF41 (i := 8) (j := 11) rfl rfl hc1) fun v6 => ?_
       refine Qx htb (by kernel_rfl) rfl rfl (Ym (cs' := [v6]) rfl rfl rfl rfl tyF41 (i := 7) rfl (Jf (i := 8) rfl) rfl rfl) ?_
       refine Zh rfl ?_
       refine tZ [0, 1, 3, 4, 5, 6, 7, 8, 9, 14, 17] [0, 1, 2, 3, 4, 5, 6, 7, 8, 9, 10] [0] rfl rfl rfl rfl ?_
       refine Qe (Qe (Qc (Qa rfl (Qi rfl rfl rfl rfl Ki) ?_)))
       refine Qa rfl (Qj rfl rfl rfl rfl YP (i := 10) rfl rfl) ?_
       refine Qa rfl (Qf rfl rfl rfl rfl rfl (XZ (a := read2.1.Flags) (b := (1 : UInt16)))) ?_
       refine Qa rfl (Qf rfl rfl rfl rfl rfl (bin_eql_u16 (a := read2.1.Flags &&& (1 : UInt16)) (b := (0 : UInt16)))) ?_
       refine Qd (tZ [0, 1, 3, 4, 5, 6, 7, 8, 9, 14, 17, 100] [0, 1, 2, 3, 4, 5, 6, 7, 8, 9, 10] [0] rfl rfl rfl rfl ?_)
       rcases bC ((read2.1.Flags &&& (1 : UInt16)) == (0 : UInt16)) with hg9 | hg9
       ·replace h := br_t hg9 h
        refine Ql (cgb hg9) ?_
        obtain rfl := Option.some.inj h
        exact Qn rfl rfl (resA (vs := []) rfl trivial) [0, 1, 2, 3, 4, 5, 6, 7, 8] [] rfl rfl rfl ⟨v6, rfl, rfl, rfl⟩
       ·replace h := br_f hg9 h
        refine Qp (cgb hg9) ?_
        refine Qt (Qc (Qa rfl (Qi rfl rfl rfl rfl fldF36x3) ?_))
        refine Qa rfl (Qj rfl rfl rfl rfl YP (i := 10) rfl rfl) ?_
        refine Qa rfl (QX rfl rfl rfl rfl (cnv_u16_i (n := read2.1.Next) Try.underlying34 Try.underlying3)) ?_
        refine sAs rfl rfl rfl ?_
        refine Qd (tZ [0, 1, 3, 4, 5, 6, 7, 8, 9, 14, 2] [0, 1, 2, 3, 4, 5, 6, 7, 8, 9] [0] rfl rfl rfl rfl ?_)
        refine Zx ?_
        exact QY (i16 read2.1.Next, m1, wi (m2 + (1 : Int)), m3, l1 ++ [made1], mput k1 true map1, v6) h [0, 1, 2, 3, 4, 5, 6, 7, 8, 9, 14] [0, 1, 2, 3, 4, 5, 6, 7, 8, 9] [0] rfl rfl rfl rfl rfl

set_option maxRecDepth 100000 in
set_option maxHeartbeats 4000000 in
theorem w_walk_split {m : gmem_Mem} {rp1 : Rings} {head : Int} {table : Bool} {b_m : Nat} {vm1 : Value} {vm2 : Value} {vsm1 : List Value} {r : ((List Seg) × Int × Int)} (h : walk_split m rp1 head table = some r) :
  Ctr Try.prog 41 #[.pointer (some ⟨b_m, 0, none⟩), .agg #[vB rp1.Packed, vI rp1.Size, vU64 rp1.Desc, vU64 rp1.Driver, vU64 rp1.Device], vI head, vB table] [(Qm b_m 113 [vm1, vm2]), (QV u8S true vm2 vsm1 m.b none)] [Fact.sl Qz vm1 m.l]
   (fun rv own shr => ∃ (w1 : Value), rv = .tuple #[w1, vI r.2.1, vI r.2.2] ∧ own = [(Qm b_m 113 [vm1, vm2]), (QV u8S true vm2 vsm1 m.b none), (rowS SegS w1 r.1)] ∧ shr = []) := by
 unfold walk_split at h
 refine Ctr.mk (args := [.pointer (some ⟨b_m, 0, none⟩), .agg #[vB rp1.Packed, vI rp1.Size, vU64 rp1.Desc, vU64 rp1.Driver, vU64 rp1.Device], vI head, vB table]) Try.func41 rfl rfl (fun R0 w0 B => ?_)
 refine Qe (Qc (Qu rfl (ZA rfl rfl rfl rfl) fun b1 => ?_))
 refine Qu rfl (ZA rfl rfl rfl rfl) fun b2 => ?_
 refine Qu rfl (ZA rfl rfl rfl rfl) fun b3 => ?_
 refine Qu rfl (QD rfl rfl rfl tyZ41) fun b4 => ?_
 refine Qu rfl (QD rfl rfl rfl tyZ3) fun b5 => ?_
 refine Qu rfl (QD rfl rfl rfl tyZ37) fun b6 => ?_
 refine Qd (tZ [2, 4, 5, 7, 8, 9, 10] [0, 1, 2, 3, 4, 5, 6, 7] [0] rfl rfl rfl rfl ?_)
 refine Qe (Qc (Qu rfl (QD rfl rfl rfl tyZ156) fun b7 => ?_))
 refine Qd (Qe (Qc (Qa rfl (Xm (vs := [.pointer (some ⟨b6, 0, none⟩), .pointer (some ⟨b1, 0, none⟩), .pointer (some ⟨b5, 0, none⟩), .pointer (some ⟨b3, 0, none⟩), .pointer (some ⟨b7, 0, none⟩), .pointer (some ⟨b4, 0, none⟩)]) rfl rfl rfl rfl) ?_)))
 refine Qa rfl (Qo (cs' := [.func (.func 84) #[] #[.pointer (some ⟨b6, 0, none⟩), .pointer (some ⟨b1, 0, none⟩), .pointer (some ⟨b5, 0, none⟩), .pointer (some ⟨b3, 0, none⟩), .pointer (some ⟨b7, 0, none⟩), .pointer (some ⟨b4, 0, none⟩)]]) rfl rfl rfl rfl tyF156 (i := 8) rfl rfl rfl (QF rfl) rfl) ?_
 refine Qd (tZ [2, 5, 8, 9, 10, 11] [0, 1, 2, 3, 4, 5, 6, 7, 8] [0] rfl rfl rfl rfl ?_)
 refine Qe (Qc (Qa rfl (Qj rfl rfl rfl rfl tyF156 (i := 8) rfl rfl) ?_))
 refine Qa rfl (Qi rfl rfl rfl rfl KC) ?_
 refine Qa rfl (Qj rfl rfl rfl rfl QZ (i := 3) rfl rfl) ?_
 refine Qa rfl (Qi rfl rfl rfl rfl Jg) ?_
 refine Qa rfl (Qj rfl rfl rfl rfl tyF3 (i := 3) rfl rfl) ?_
 refine sMv rfl rfl rfl ?_
 refine Tops_nilrow SegS ?_
 obtain ⟨split1, hx1, h⟩ := ob_e h
 refine Qs rfl (QJ [12, 13, 11, 3, 15, 17, 14, 10, 16, 18] (w_walk_split_1cf3 hx1) [7, 2, 0, 1, 6, 4, 8, 5, 9] [0] rfl rfl rfl rfl rfl callee84 rfl rfl rfl rfl rfl) ?_
 rintro _ ⟨_, _, _, ⟨v1, rfl, rfl, rfl⟩, rfl⟩
 refine Qd (tZ [8, 9, 10] [0, 1, 5, 6, 7, 9] [0] rfl rfl rfl rfl ?_)
 refine Qe (QU (by kernel_rfl) ?_)
 refine Xn [0, 0, 0, 1, 11, 31] (by kernel_rfl) fun htb => ?_
 refine QW (lo := 0) (hi := 5) htb rfl rfl (by kernel_rfl) (fun c L a w => Sat c ⟨[(8, some (.pointer (some ⟨b4, 0, none⟩))), (9, some (.pointer (some ⟨b5, 0, none⟩))), (10, some (.pointer (some ⟨b6, 0, none⟩))), (20, bif L 0 then some (v1) else none), (21, bif L 1 then some (vI split1.2.1) else none), (22, bif L 2 then some (vI split1.1) else none)], [(some (Qm b_m 113 [vm1, vm2]) : Option Res), (some (QV u8S true vm2 vsm1 m.b none) : Option Res), (some (Qm b4 41 [v1]) : Option Res), (some (Qm b5 3 [vI split1.2.1]) : Option Res), (some (Qm b6 37 [vI split1.1]) : Option Res), (some (rowS SegS v1 split1.2.2.2) : Option Res)], [Fact.sl Qz vm1 m.l]⟩ a w) [([], [3, 4]), ([], [4]), ([], []), ([0], [4]), ([0, 1, 3], [])] rfl (by kernel_rfl) ?_ (Qb ?_ (Qb ?_ (Qb ?_ (Qb ?_ (Qb ?_ (QB)))))) ?_
 ·intro a w hs
  exact hs.startF [20, 21, 22] [0, 1, 2, 3, 4, 5] [0] rfl rfl rfl rfl
 ·intro L a w hs K Q hK
  exact wGo rfl rfl hs (Qj rfl rfl rfl rfl tyF41 (i := 2) rfl rfl) fun a w hs => hK a w (pF hs 3 [0, 1, 2, 3, 4, 5] [0] rfl)
 ·intro L a w hs K Q hK
  exact wGo rfl rfl hs (Qj rfl rfl rfl rfl tyF3 (i := 3) rfl rfl) fun a w hs => hK a w (pF hs 4 [0, 1, 2, 3, 4, 5] [0] rfl)
 ·intro L a w hs K Q hK
  exact wGo rfl rfl hs (Qj rfl rfl rfl rfl tyF37 (i := 4) rfl rfl) fun a w hs => hK a w (pF hs 5 [0, 1, 2, 3, 4, 5] [0] rfl)
 ·intro L a w hs K Q hK
  exact wGo rfl rfl hs (Ym (cs' := [v1]) rfl rfl rfl rfl tyF41 (i := 2) rfl (Jf (i := 5) rfl) rfl rfl) fun a w hs => hK a w (hs.sameF [0, 1, 2, 3, 4, 5] [0] rfl rfl rfl rfl)
 ·intro L a w hs K Q hK
  exact wGo rfl rfl hs (Qo (cs' := [vI split1.2.1]) rfl rfl rfl rfl tyF3 (i := 3) rfl rfl rfl (QF rfl) rfl) fun a w hs => hK a w (hs.sameF [0, 1, 2, 3, 4, 5] [0] rfl rfl rfl rfl)
 ·intro L a w hL hv
  rw [QM hL] at hv
  have hs := hv
  refine gZ hs [8, 9, 10, 22] [0, 1, 2, 3, 4, 5] [0] rfl rfl rfl rfl ?_
  clear hs hL
  refine Qx htb (by kernel_rfl) rfl rfl (Qo (cs' := [vI split1.1]) rfl rfl rfl rfl tyF37 (i := 4) rfl rfl rfl (QF rfl) rfl) ?_
  refine Zh rfl ?_
  refine tZ [8, 9, 10] [0, 1, 2, 3, 4, 5] [0] rfl rfl rfl rfl ?_
  obtain rfl := Option.some.inj h
  exact Qn rfl rfl (resA (vs := [v1, vI split1.2.1, vI split1.1]) rfl ⟨⟨_, 2, _, _, _, rfl, rfl, .inr ⟨tyF41, rfl⟩⟩, ⟨_, 3, _, _, _, rfl, rfl, .inr ⟨tyF3, rfl⟩⟩, ⟨_, 4, _, _, _, rfl, rfl, .inr ⟨tyF37, rfl⟩⟩, trivial⟩) [0, 1, 5] [] rfl rfl rfl ⟨v1, rfl, rfl, rfl⟩

set_option maxRecDepth 100000 in
set_option maxHeartbeats 4000000 in
theorem wb_seg_Check_1 {arg0 : Int} {arg1 : UInt64} {b_arg0 : Nat} {b_arg1 : Nat} {r : Int} (h : YT arg0 arg1 = some r) :
  BodyOk Try.prog 102 [.pointer (some ⟨b_arg0, 0, none⟩), .pointer (some ⟨b_arg1, 0, none⟩)] [(Qm b_arg0 37 [vI arg0]), (Qm b_arg1 27 [vU64 arg1])] []
   (fun rv own shr => rv = .tuple #[] ∧ own = [(Qm b_arg0 37 [vI r]), (Qm b_arg1 27 [vU64 arg1])] ∧ shr = []) := by
 unfold YT at h
 refine BodyOk.mk Try.func102 rfl rfl (fun R0 w0 B => ?_)
 refine Qe (Qc (Qa rfl (Qj rfl rfl rfl rfl tyF37 (i := 0) rfl rfl) ?_))
 refine Qa rfl (Qf rfl rfl rfl rfl rfl (ZG (a := arg0) (b := (0 : Int)))) ?_
 refine sMv rfl rfl rfl ?_
 rcases bC (arg0 == (0 : Int)) with hg1 | hg1
 ·replace h := br_t hg1 h
  refine Qh rfl rfl (cgb hg1) (Qj rfl rfl rfl rfl QZ (i := 1) rfl rfl) ?_
  rintro _ rfl
  refine Qh rfl rfl (cgb hg1) (Qf rfl rfl rfl rfl rfl (bin_geq_u64 (a := arg1) (b := (4294967296 : UInt64)))) ?_
  rintro _ rfl
  refine Qa rfl (Qr rfl rfl rfl (cgb hg1) rfl) ?_
  refine Qd (tZ [0, 7] [0, 1] [] rfl rfl rfl rfl ?_)
  rcases bC (decide (arg1 ≥ (4294967296 : UInt64))) with hg2 | hg2
  ·replace h := br_t hg2 h
   refine Ql (cgb hg2) ?_
   refine Qc (Qa rfl (Qo (cs' := [vI (2 : Int)]) rfl rfl rfl rfl tyF37 (i := 0) rfl rfl rfl (QF rfl) rfl) ?_)
   refine Qd ?_
   obtain rfl := Option.some.inj h
   exact Tk_endV rfl rfl (resA (vs := []) rfl trivial) [0, 1] [] rfl rfl rfl ⟨rfl, rfl, rfl⟩
  ·replace h := br_f hg2 h
   refine Qp (cgb hg2) ?_
   refine Qt ?_
   obtain rfl := Option.some.inj h
   exact Tk_endV rfl rfl (resA (vs := []) rfl trivial) [0, 1] [] rfl rfl rfl ⟨rfl, rfl, rfl⟩
 ·replace h := br_f hg1 h
  refine Qg rfl rfl (cgb hg1) rfl rfl ?_
  refine Qg rfl rfl (cgb hg1) rfl rfl ?_
  refine Qa rfl (Qw rfl rfl rfl (cgb hg1) rfl) ?_
  refine Qd (tZ [0, 7] [0, 1] [] rfl rfl rfl rfl ?_)
  refine Qp rfl ?_
  refine Qt ?_
  obtain rfl := Option.some.inj h
  exact Tk_endV rfl rfl (resA (vs := []) rfl trivial) [0, 1] [] rfl rfl rfl ⟨rfl, rfl, rfl⟩
end Go.Proofs.Ytlofegfaphijpaa
