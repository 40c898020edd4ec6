/- The functions do what the plain words say: each is walked once. No statement of the seat is proved here; no condition. -/
import Derived.Test.YtlofegfaphijpaaWa4
namespace Go.Proofs.Ytlofegfaphijpaa
attribute [local irreducible] sub
set_option maxRecDepth 100000 in
set_option maxHeartbeats 4000000 in
theorem w_kit_Taken {ap0 : Taken} {b : Taken} {vap01 : Value} {vb1 : Value} {r : Bool} (h : Jd ap0 b = some r) :
  Ctr Try.prog 22 #[.agg #[vI ap0.ID, vI ap0.Count, vap01], .agg #[vI b.ID, vI b.Count, vb1]] [] [Fact.sl SegS vap01 ap0.Segs, Fact.sl SegS vb1 b.Segs]
   (fun rv own shr => rv = vB r ∧ own = [] ∧ shr = []) := by
 unfold Jd at h
 refine Ctr.mk (args := [.agg #[vI ap0.ID, vI ap0.Count, vap01], .agg #[vI b.ID, vI b.Count, vb1]]) Try.func22 rfl rfl (fun R0 w0 B => ?_)
 refine Qe (Qc (Qu rfl (ZA rfl rfl rfl rfl) fun b1 => ?_))
 refine Qu rfl (ZA rfl rfl rfl rfl) fun b2 => ?_
 refine sAs rfl rfl rfl ?_
 refine Qd (tZ [2, 3] [0, 1] [0, 1] rfl rfl rfl rfl ?_)
 refine Qe (Qc (Qa rfl (Qi rfl rfl rfl rfl fldF56x0) ?_))
 refine Qa rfl (Qj rfl rfl rfl rfl tyF3 (i := 0) rfl rfl) ?_
 refine Qa rfl (Qi rfl rfl rfl rfl fldF56x0) ?_
 refine Qa rfl (Qj rfl rfl rfl rfl tyF3 (i := 1) rfl rfl) ?_
 refine Qa rfl (Qf rfl rfl rfl rfl rfl (ZG (a := ap0.ID) (b := b.ID))) ?_
 refine sMv rfl rfl rfl ?_
 rcases bC (ap0.ID == b.ID) with hg1 | hg1
 ·replace h := br_t hg1 h
  refine Qh rfl rfl (cgb hg1) (Qi rfl rfl rfl rfl fldF56x1) ?_
  rintro _ rfl
  refine Qh rfl rfl (cgb hg1) (Qj rfl rfl rfl rfl tyF3 (i := 0) rfl rfl) ?_
  rintro _ rfl
  refine Qh rfl rfl (cgb hg1) (Qi rfl rfl rfl rfl fldF56x1) ?_
  rintro _ rfl
  refine Qh rfl rfl (cgb hg1) (Qj rfl rfl rfl rfl tyF3 (i := 1) rfl rfl) ?_
  rintro _ rfl
  refine Qh rfl rfl (cgb hg1) (Qf rfl rfl rfl rfl rfl (ZG (a := ap0.Count) (b := b.Count))) ?_
  rintro _ rfl
  refine Qa rfl (Qr rfl rfl rfl (cgb hg1) rfl) ?_
  refine sMv rfl rfl rfl ?_
  rcases bC (ap0.Count == b.Count) with hg2 | hg2
  ·replace h := br_t hg2 h
   refine Qh rfl rfl (cgb hg2) (Qi rfl rfl rfl rfl fldF56x2) ?_
   rintro _ rfl
   refine Qh rfl rfl (cgb hg2) (Qj rfl rfl rfl rfl tyF41 (i := 0) rfl rfl) ?_
   rintro _ rfl
   refine Qh rfl rfl (cgb hg2) (Qi rfl rfl rfl rfl fldF56x2) ?_
   rintro _ rfl
   refine Qh rfl rfl (cgb hg2) (Qj rfl rfl rfl rfl tyF41 (i := 1) rfl rfl) ?_
   rintro _ rfl
   obtain ⟨samese1, hx1, h⟩ := ob_e h
   refine Qh rfl rfl (cgb hg2) (Qv (w_kit_SameSegs hx1) [] [0, 1] rfl rfl rfl rfl rfl callee18 rfl rfl rfl rfl) ?_
   rintro _ ⟨_, _, _, ⟨rfl, rfl, rfl⟩, rfl⟩
   refine Qa rfl (Qr rfl rfl rfl (cgb hg2) rfl) ?_
   refine sAs rfl rfl rfl ?_
   refine Qd (tZ [4] [] [] rfl rfl rfl rfl ?_)
   obtain rfl := Option.some.inj h
   exact Qn rfl rfl (resA (vs := [vB samese1]) rfl ⟨rfl, trivial⟩) [] [] rfl rfl rfl ⟨rfl, rfl, rfl⟩
  ·replace h := br_f hg2 h
   refine Qg rfl rfl (cgb hg2) rfl rfl ?_
   refine Qg rfl rfl (cgb hg2) rfl rfl ?_
   refine Qg rfl rfl (cgb hg2) rfl rfl ?_
   refine Qg rfl rfl (cgb hg2) rfl rfl ?_
   refine Qg rfl rfl (cgb hg2) rfl rfl ?_
   refine Qa rfl (Qw rfl rfl rfl (cgb hg2) rfl) ?_
   refine sAs rfl rfl rfl ?_
   refine Qd (tZ [4] [] [] rfl rfl rfl rfl ?_)
   obtain rfl := Option.some.inj h
   exact Qn rfl rfl (resA (vs := [vB false]) rfl ⟨rfl, trivial⟩) [] [] rfl rfl rfl ⟨rfl, rfl, rfl⟩
 ·replace h := br_f hg1 h
  refine Qg rfl rfl (cgb hg1) rfl rfl ?_
  refine Qg rfl rfl (cgb hg1) rfl rfl ?_
  refine Qg rfl rfl (cgb hg1) rfl rfl ?_
  refine Qg rfl rfl (cgb hg1) rfl rfl ?_
  refine Qg rfl rfl (cgb hg1) rfl rfl ?_
  refine Qa rfl (Qw rfl rfl rfl (cgb hg1) rfl) ?_
  refine sMv rfl rfl rfl ?_
  refine Qg rfl rfl rfl rfl rfl ?_
  refine Qg rfl rfl rfl rfl rfl ?_
  refine Qg rfl rfl rfl rfl rfl ?_
  refine Qg rfl rfl rfl rfl rfl ?_
  refine Qg rfl rfl rfl rfl rfl ?_
  refine Qa rfl (Qw rfl rfl rfl rfl rfl) ?_
  refine sAs rfl rfl rfl ?_
  refine Qd (tZ [4] [] [] rfl rfl rfl rfl ?_)
  obtain rfl := Option.some.inj h
  exact Qn rfl rfl (resA (vs := [vB false]) rfl ⟨rfl, trivial⟩) [] [] rfl rfl rfl ⟨rfl, rfl, rfl⟩

end Go.Proofs.Ytlofegfaphijpaa
