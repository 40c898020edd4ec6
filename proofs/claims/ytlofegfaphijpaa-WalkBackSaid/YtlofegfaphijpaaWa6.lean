/- The functions do what the plain words say: each is walked once. No statement of the seat is proved here; no condition. -/
import Derived.Test.YtlofegfaphijpaaWa5
namespace Go.Proofs.Ytlofegfaphijpaa
attribute [local irreducible] sub
set_option maxRecDepth 100000 in
set_option maxHeartbeats 4000000 in
theorem w_build_Needs {l : List Seg} {table : Bool} {vl1 : Value} {r : Int} (h : build_Needs l table = some r) :
  Ctr Try.prog 27 #[vl1, vB table] [] [Fact.sl SegS vl1 l]
   (fun rv own shr => rv = vI r ∧ own = [] ∧ shr = []) := by
 unfold build_Needs at h
 refine Ctr.mk (args := [vl1, vB table]) Try.func27 rfl rfl (fun R0 w0 B => ?_)
 refine Qe (Qc (sAs rfl rfl rfl ?_))
 refine Qd (tZ [0, 1] [] [0] rfl rfl rfl rfl ?_)
 refine Qe (QC (Qe (Qc (sMv rfl rfl rfl ?_))))
 obtain ⟨check1, hx1, h⟩ := ob_e h
 refine Qs rfl (Qv (w_seg_Check hx1) [] [0] rfl rfl rfl rfl rfl callee62 rfl rfl rfl rfl) ?_
 rintro _ ⟨_, _, _, ⟨rfl, rfl, rfl⟩, rfl⟩
 refine Qa rfl (Qf rfl rfl rfl rfl rfl (QL (a := check1) (b := (0 : Int)))) ?_
 refine sMv rfl rfl rfl ?_
 rcases bC (check1 != (0 : Int)) with hg1 | hg1
 ·replace h := br_t hg1 h
  refine Qg rfl rfl (cgb hg1) rfl rfl ?_
  refine Qg rfl rfl (cgb hg1) rfl rfl ?_
  refine Qg rfl rfl (cgb hg1) rfl rfl ?_
  refine Qa rfl (Qr rfl rfl rfl (cgb hg1) rfl) ?_
  refine sAs rfl rfl rfl ?_
  refine Qd (tZ [0, 1, 5] [] [0] rfl rfl rfl rfl ?_)
  refine Ql rfl ?_
  refine Qe (Qc (sAs rfl rfl rfl ?_))
  refine Qd (tZ [4] [] [] rfl rfl rfl rfl ?_)
  obtain rfl := Option.some.inj h
  exact Qn rfl rfl (resA (vs := [vI (0 : Int)]) rfl ⟨rfl, trivial⟩) [] [] rfl rfl rfl ⟨rfl, rfl, rfl⟩
 ·replace h := br_f hg1 h
  refine Qh rfl rfl (cgb hg1) (Qk rfl rfl rfl rfl) ?_
  rintro _ rfl
  refine Qh rfl rfl (cgb hg1) (QT rfl rfl rfl rfl Try.underlying41 (i := 0) rfl) ?_
  rintro _ rfl
  refine Qh rfl rfl (cgb hg1) (Qf rfl rfl rfl rfl rfl (ZG (a := len l) (b := (0 : Int)))) ?_
  rintro _ rfl
  refine Qa rfl (Qw rfl rfl rfl (cgb hg1) rfl) ?_
  refine sAs rfl rfl rfl ?_
  refine Qd (tZ [0, 1, 5] [] [0] rfl rfl rfl rfl ?_)
  rcases bC ((len l) == (0 : Int)) with hg2 | hg2
  ·replace h := br_t hg2 h
   refine Ql (cgb hg2) ?_
   refine Qe (Qc (sAs rfl rfl rfl ?_))
   refine Qd (tZ [4] [] [] rfl rfl rfl rfl ?_)
   obtain rfl := Option.some.inj h
   exact Qn rfl rfl (resA (vs := [vI (0 : Int)]) rfl ⟨rfl, trivial⟩) [] [] rfl rfl rfl ⟨rfl, rfl, rfl⟩
  ·replace h := br_f hg2 h
   refine Qp (cgb hg2) ?_
   refine Qe (Qc (sMv rfl rfl rfl ?_))
   refine sAs rfl rfl rfl ?_
   refine Qd (tZ [0, 14] [] [0] rfl rfl rfl rfl ?_)
   rcases bC (table) with hg3 | hg3
   ·replace h := br_t hg3 h
    refine Ql (cgb hg3) ?_
    refine Qe (Qc (sAs rfl rfl rfl ?_))
    refine Qd (tZ [4] [] [] rfl rfl rfl rfl ?_)
    obtain rfl := Option.some.inj h
    exact Qn rfl rfl (resA (vs := [vI (1 : Int)]) rfl ⟨rfl, trivial⟩) [] [] rfl rfl rfl ⟨rfl, rfl, rfl⟩
   ·replace h := br_f hg3 h
    refine Qp (cgb hg3) ?_
    refine Qt (Zx (Qe (Qc (sMv rfl rfl rfl ?_))))
    refine Qa rfl (QT rfl rfl rfl rfl Try.underlying41 (i := 0) rfl) ?_
    refine sAs rfl rfl rfl ?_
    refine Qd (tZ [4] [] [] rfl rfl rfl rfl ?_)
    obtain rfl := Option.some.inj h
    exact Qn rfl rfl (resA (vs := [vI (len l)]) rfl ⟨rfl, trivial⟩) [] [] rfl rfl rfl ⟨rfl, rfl, rfl⟩

set_option maxRecDepth 100000 in
set_option maxHeartbeats 4000000 in
theorem w_build_wrong_1 {arg0 : Bool} {parg01 : Value} {r : Int} (h : Jj arg0 = some r) :
  Ctr Try.prog 104 #[parg01] [] [Fact.pt bS parg01 arg0]
   (fun rv own shr => rv = vI r ∧ own = [] ∧ shr = []) := by
 unfold Jj at h
 refine Ctr.mk (args := [parg01]) Try.func104 rfl rfl (fun R0 w0 B => ?_)
 refine Qe (Qc (sAs rfl rfl rfl ?_))
 refine Qd (tZ [0] [] [0] rfl rfl rfl rfl ?_)
 refine Qe (Qe (Qc (Qa rfl (Zj rfl rfl rfl rfl tyF4 (i := 0) rfl rfl) ?_)))
 refine Qd (tZ [2] [] [] rfl rfl rfl rfl ?_)
 rcases bC (arg0) with hg1 | hg1
 ·replace h := br_t hg1 h
  refine Ql (cgb hg1) ?_
  refine Qe (Qc (sAs rfl rfl rfl ?_))
  refine Qd (tZ [1] [] [] rfl rfl rfl rfl ?_)
  obtain rfl := Option.some.inj h
  exact Qn rfl rfl (resA (vs := [vI (2 : Int)]) rfl ⟨rfl, trivial⟩) [] [] rfl rfl rfl ⟨rfl, rfl, rfl⟩
 ·replace h := br_f hg1 h
  refine Qp (cgb hg1) ?_
  refine Qt (Qe (Qc (sAs rfl rfl rfl ?_)))
  refine Qd (tZ [1] [] [] rfl rfl rfl rfl ?_)
  obtain rfl := Option.some.inj h
  exact Qn rfl rfl (resA (vs := [vI (0 : Int)]) rfl ⟨rfl, trivial⟩) [] [] rfl rfl rfl ⟨rfl, rfl, rfl⟩

set_option maxRecDepth 100000 in
set_option maxHeartbeats 4000000 in
theorem ZN {is : Bool} {r : (Option Int)} (h : Zy is = some r) :
  Ctr Try.prog 65 #[vB is] [] []
   (fun rv own shr => ∃ (w1 : Value), rv = w1 ∧ own = [] ∧ shr = [Fact.fn Try.prog av0 vI w1 (fun _ => r)]) := by
 unfold Zy at h
 refine Ctr.mk (args := [vB is]) Try.func65 rfl rfl (fun R0 w0 B => ?_)
 refine Qe (Qc (Qu rfl (ZA rfl rfl rfl rfl) fun b1 => ?_))
 refine sAs rfl rfl rfl ?_
 refine Qd (tZ [1] [0] [] rfl rfl rfl rfl ?_)
 refine Qe (Qc (Qa rfl (Xm (vs := [.pointer (some ⟨b1, 0, none⟩)]) rfl rfl rfl rfl) ?_))
 refine sAs rfl rfl rfl ?_
 refine Qd (tZ [2] [0] [] rfl rfl rfl rfl ?_)
 refine Tk_vs (XP bS (x := is) (i := 0) rfl (fun _ _ => rfl)) ?_
 refine Tk_vs (vs_add (Fact.fn Try.prog av0 vI (.func (.func 104) #[] #[(.pointer (some ⟨b1, 0, none⟩))]) (fun _ => Jj is)) (fun R hF => ⟨rfl, fun x r hx => ⟨104, [(.pointer (some ⟨b1, 0, none⟩))], [Fact.pt bS (.pointer (some ⟨b1, 0, none⟩)) is], rfl, callee104, (KD (mem_at (i := 0) rfl hF) fal_nil), w_build_wrong_1 hx⟩⟩)) ?_
 obtain rfl := Option.some.inj h
 exact Qn rfl rfl (resA (vs := [(.func (.func 104) #[] #[(.pointer (some ⟨b1, 0, none⟩))])]) rfl ⟨rfl, trivial⟩) [] [1] rfl rfl rfl ⟨(.func (.func 104) #[] #[(.pointer (some ⟨b1, 0, none⟩))]), rfl, rfl, rfl⟩

set_option maxRecDepth 100000 in
set_option maxHeartbeats 4000000 in
theorem w_build_buffer_1 {arg0 : List Seg} {parg01 : Value} {r : Int} (h : YH arg0 = some r) :
  Ctr Try.prog 103 #[parg01] [] [Fact.pt (Shape.slice SegS) parg01 arg0]
   (fun rv own shr => rv = vI r ∧ own = [] ∧ shr = []) := by
 unfold YH at h
 refine Ctr.mk (args := [parg01]) Try.func103 rfl rfl (fun R0 w0 B => ?_)
 refine Qe (Qc (sAs rfl rfl rfl ?_))
 refine Qd (tZ [0] [] [0] rfl rfl rfl rfl ?_)
 refine Qe (Qe (Qc (Qu rfl (Yn rfl rfl rfl rfl tyF41 (i := 0) rfl) fun v1 => ?_)))
 obtain ⟨check1, hx1, h⟩ := ob_e h
 refine Qs rfl (Qv (w_seg_Check hx1) [] [1] rfl rfl rfl rfl rfl callee62 rfl rfl rfl rfl) ?_
 rintro _ ⟨_, _, _, ⟨rfl, rfl, rfl⟩, rfl⟩
 refine sAs rfl rfl rfl ?_
 refine Qd (tZ [0, 2] [] [0] rfl rfl rfl rfl ?_)
 refine Qe (Qc (sMv rfl rfl rfl ?_))
 refine Qa rfl (Qf rfl rfl rfl rfl rfl (QL (a := check1) (b := (0 : Int)))) ?_
 refine Qd (tZ [0, 2, 6] [] [0] rfl rfl rfl rfl ?_)
 rcases bC (check1 != (0 : Int)) with hg1 | hg1
 ·replace h := br_t hg1 h
  refine Ql (cgb hg1) ?_
  refine Qe (Qc (sMv rfl rfl rfl ?_))
  refine sAs rfl rfl rfl ?_
  refine Qd (tZ [1] [] [] rfl rfl rfl rfl ?_)
  obtain rfl := Option.some.inj h
  exact Qn rfl rfl (resA (vs := [vI check1]) rfl ⟨rfl, trivial⟩) [] [] rfl rfl rfl ⟨rfl, rfl, rfl⟩
 ·replace h := br_f hg1 h
  refine Qp (cgb hg1) ?_
  refine Qt (Qe (Qc (Qu rfl (Yn rfl rfl rfl rfl tyF41 (i := 0) rfl) fun v2 => ?_)))
  refine Qa rfl (QT rfl rfl rfl rfl Try.underlying41 (i := 1) rfl) ?_
  refine Qa rfl (Qf rfl rfl rfl rfl rfl (ZG (a := len arg0) (b := (0 : Int)))) ?_
  obtain ⟨wrong1, hx2, h⟩ := ob_e h
  refine Qs rfl (Qv (ZN hx2) [] [] rfl rfl rfl rfl rfl Kj rfl rfl rfl rfl) ?_
  rintro _ ⟨v3, _, _, ⟨_, rfl, rfl, rfl⟩, rfl⟩
  obtain ⟨y1, hx3, h⟩ := ob_e h
  refine Qa rfl (OpT_callF (u := vI y1) () rfl rfl rfl rfl (i := 2) rfl rfl rfl hx3 rfl) ?_
  refine sAs rfl rfl rfl ?_
  refine Qd (tZ [1] [] [] rfl rfl rfl rfl ?_)
  obtain rfl := Option.some.inj h
  exact Qn rfl rfl (resA (vs := [vI y1]) rfl ⟨rfl, trivial⟩) [] [] rfl rfl rfl ⟨rfl, rfl, rfl⟩

set_option maxRecDepth 100000 in
set_option maxHeartbeats 4000000 in
theorem w_build_buffer {l : List Seg} {vl1 : Value} {r : (Option Int)} (h : Yq l = some r) :
  Ctr Try.prog 64 #[vl1] [] [Fact.sl SegS vl1 l]
   (fun rv own shr => ∃ (w1 : Value), rv = w1 ∧ own = [] ∧ shr = [Fact.fn Try.prog av0 vI w1 (fun _ => r)]) := by
 unfold Yq at h
 refine Ctr.mk (args := [vl1]) Try.func64 rfl rfl (fun R0 w0 B => ?_)
 refine Qe (Qc (Qu rfl (OpT_box1 rfl rfl rfl rfl (is_sl (i := 0) rfl)) fun b1 => ?_))
 refine sAs rfl rfl rfl ?_
 refine Qd (tZ [1] [0] [0] rfl rfl rfl rfl ?_)
 refine Qe (Qc (Qa rfl (Xm (vs := [.pointer (some ⟨b1, 0, none⟩)]) rfl rfl rfl rfl) ?_))
 refine sAs rfl rfl rfl ?_
 refine Qd (tZ [2] [0] [0] rfl rfl rfl rfl ?_)
 refine Tk_vs (XP (Shape.slice SegS) (x := l) (i := 0) rfl (rel_sl (i := 0) rfl)) ?_
 refine Tk_vs (vs_add (Fact.fn Try.prog av0 vI (.func (.func 103) #[] #[(.pointer (some ⟨b1, 0, none⟩))]) (fun _ => YH l)) (fun R hF => ⟨rfl, fun x r hx => ⟨103, [(.pointer (some ⟨b1, 0, none⟩))], [Fact.pt (Shape.slice SegS) (.pointer (some ⟨b1, 0, none⟩)) l], rfl, callee103, (KD (mem_at (i := 1) rfl hF) fal_nil), w_build_buffer_1 hx⟩⟩)) ?_
 obtain rfl := Option.some.inj h
 exact Qn rfl rfl (resA (vs := [(.func (.func 103) #[] #[(.pointer (some ⟨b1, 0, none⟩))])]) rfl ⟨rfl, trivial⟩) [] [2] rfl rfl rfl ⟨(.func (.func 103) #[] #[(.pointer (some ⟨b1, 0, none⟩))]), rfl, rfl, rfl⟩

set_option maxRecDepth 100000 in
set_option maxHeartbeats 4000000 in
theorem w_build_isID {np0 : Int} {r : Bool} (h : build_isID np0 = some r) :
  Ctr Try.prog 71 #[vI np0] [] []
   (fun rv own shr => rv = vB r ∧ own = [] ∧ shr = []) := by
 unfold build_isID at h
 refine Ctr.mk (args := [vI np0]) Try.func71 rfl rfl (fun R0 w0 B => ?_)
 refine Qe (Qc (sAs rfl rfl rfl ?_))
 refine Qd (tZ [0] [] [] rfl rfl rfl rfl ?_)
 refine Qe (Qc (sMv rfl rfl rfl ?_))
 refine Qa rfl (Qf rfl rfl rfl rfl rfl (YF (a := np0) (b := (0 : Int)))) ?_
 refine sMv rfl rfl rfl ?_
 rcases bC (decide (np0 ≥ (0 : Int))) with hg1 | hg1
 ·replace h := br_t hg1 h
  refine Qh rfl rfl (cgb hg1) (Qk rfl rfl rfl rfl) ?_
  rintro _ rfl
  refine Qh rfl rfl (cgb hg1) (Qf rfl rfl rfl rfl rfl (QI (a := np0) (b := (32768 : Int)))) ?_
  rintro _ rfl
  refine Qa rfl (Qr rfl rfl rfl (cgb hg1) rfl) ?_
  refine sAs rfl rfl rfl ?_
  refine Qd (tZ [2] [] [] rfl rfl rfl rfl ?_)
  obtain rfl := Option.some.inj h
  exact Qn rfl rfl (resA (vs := [vB (decide (np0 < (32768 : Int)))]) rfl ⟨rfl, trivial⟩) [] [] rfl rfl rfl ⟨rfl, rfl, rfl⟩
 ·replace h := br_f hg1 h
  refine Qg rfl rfl (cgb hg1) rfl rfl ?_
  refine Qg rfl rfl (cgb hg1) rfl rfl ?_
  refine Qa rfl (Qw rfl rfl rfl (cgb hg1) rfl) ?_
  refine sAs rfl rfl rfl ?_
  refine Qd (tZ [2] [] [] rfl rfl rfl rfl ?_)
  obtain rfl := Option.some.inj h
  exact Qn rfl rfl (resA (vs := [vB false]) rfl ⟨rfl, trivial⟩) [] [] rfl rfl rfl ⟨rfl, rfl, rfl⟩

set_option maxRecDepth 100000 in
set_option maxHeartbeats 4000000 in
theorem w_build_apart {ids : List Int} {vids1 : Value} {r : Bool} (h : build_apart ids = some r) :
  Ctr Try.prog 66 #[vids1] [] [Fact.sl iS vids1 ids]
   (fun rv own shr => rv = vB r ∧ own = [] ∧ shr = []) := by
 unfold build_apart at h
 refine Ctr.mk (args := [vids1]) Try.func66 rfl rfl (fun R0 w0 B => ?_)
 refine Qe (Qc (sAs rfl rfl rfl ?_))
 refine Qd (tZ [0] [] [0] rfl rfl rfl rfl ?_)
 refine Qe (Qc (Qu rfl (OpT_makeMap .i64 (fun x : Int => x) vB rfl rfl rfl) fun b1 => ?_))
 refine sAs rfl rfl rfl ?_
 refine Qd (tZ [0, 3] [0] [0] rfl rfl rfl rfl ?_)
 refine Qe (Qe (Qc (sMv rfl rfl rfl ?_)))
 refine Qa rfl (QT rfl rfl rfl rfl Try.underlying32 (i := 0) rfl) ?_
 refine sMv rfl rfl rfl ?_
 refine Qd (tZ [3, 7, 8, 9] [0] [0] rfl rfl rfl rfl ?_)
 refine QC (Zf (σ := (List (Int × Bool)) × Int) [3, 7, 8, 9] [0] [0] (fun s => ⟨[(3, some (.map (some b1))), (7, some vids1), (8, some (vI (len ids))), (9, some (vI s.2))], [some (mapR b1 .i64 (fun x : Int => x) vB s.1)], [Fact.sl iS vids1 ids]⟩) (fun nf1 s => Kk ids nf1 s.1 s.2 = some r) fuel (([] : List (Int × Bool)), (0 : Int)) h rfl rfl rfl rfl rfl (fun s h => by cases h) ?_)
 rintro nf1 ⟨map1, x1⟩ h
 replace h : build_apartL1B ids (Kk ids nf1) map1 x1 = some r := h
 unfold build_apartL1B at h
 refine Qe (Qc (Qa rfl (Qf rfl rfl rfl rfl rfl (QI (a := x1) (b := len ids))) ?_))
 refine Qd (Qe ?_)
 rcases bC (decide (x1 < (len ids))) with hg1 | hg1
 ·replace h := br_t hg1 h
  refine Ql (cgb hg1) ?_
  refine Qt (Qe (QC (Qe (Qc ?_))))
  obtain ⟨y1, hx1, h⟩ := ob_e h
  refine Qu rfl (Zb rfl rfl rfl rfl rfl slF32 (i := 0) rfl hx1) fun p1 => ?_
  refine Qa rfl (Zj rfl rfl rfl rfl tyF3 (i := 1) rfl rfl) ?_
  refine sAs rfl rfl rfl ?_
  refine Qd (tZ [3, 7, 8, 9, 5] [0] [0] rfl rfl rfl rfl ?_)
  refine Qe (Qe (Qc (sMv rfl rfl rfl ?_)))
  obtain ⟨isid1, hx2, h⟩ := ob_e h
  refine Qs rfl (Qv (w_build_isID hx2) [] [] rfl rfl rfl rfl rfl callee71 rfl rfl rfl rfl) ?_
  rintro _ ⟨_, _, _, ⟨rfl, rfl, rfl⟩, rfl⟩
  refine Qa rfl (XO rfl rfl rfl rfl) ?_
  refine sMv rfl rfl rfl ?_
  rcases bC ((!isid1)) with hg2 | hg2
  ·replace h := br_t hg2 h
   refine Qg rfl rfl (cgb hg2) rfl rfl ?_
   refine Qg rfl rfl (cgb hg2) rfl rfl ?_
   refine Qg rfl rfl (cgb hg2) rfl rfl ?_
   refine Qa rfl (Qr rfl rfl rfl (cgb hg2) rfl) ?_
   refine Qd (tZ [3, 7, 8, 9, 5, 20] [0] [0] rfl rfl rfl rfl ?_)
   refine Ql rfl ?_
   refine Qe (Qc (sAs rfl rfl rfl ?_))
   refine Qd (tZ [2] [] [] rfl rfl rfl rfl ?_)
   obtain rfl := Option.some.inj h
   exact Qn rfl rfl (resA (vs := [vB false]) rfl ⟨rfl, trivial⟩) [] [] rfl rfl rfl ⟨rfl, rfl, rfl⟩
  ·replace h := br_f hg2 h
   refine Qh rfl rfl (cgb hg2) (Qk rfl rfl rfl rfl) ?_
   rintro _ rfl
   refine Qh rfl rfl (cgb hg2) (Qk rfl rfl rfl rfl) ?_
   rintro _ rfl
   refine Qh rfl rfl (cgb hg2) (OpT_lookup keyI (V := vB) (kx := y1) (z := false) rfl rfl rfl rfl rfl Try.underlying157 Try.underlying3 tyZ4 (i := 0) rfl) ?_
   rintro _ rfl
   refine Qa rfl (Qw rfl rfl rfl (cgb hg2) rfl) ?_
   refine Qd (tZ [3, 7, 8, 9, 5, 20] [0] [0] rfl rfl rfl rfl ?_)
   rcases bC (mget false y1 map1) with hg3 | hg3
   ·replace h := br_t hg3 h
    refine Ql (cgb hg3) ?_
    refine Qe (Qc (sAs rfl rfl rfl ?_))
    refine Qd (tZ [2] [] [] rfl rfl rfl rfl ?_)
    obtain rfl := Option.some.inj h
    exact Qn rfl rfl (resA (vs := [vB false]) rfl ⟨rfl, trivial⟩) [] [] rfl rfl rfl ⟨rfl, rfl, rfl⟩
   ·replace h := br_f hg3 h
    refine Qp (cgb hg3) ?_
    refine Qt (Qc (sMv rfl rfl rfl ?_))
    refine sMv rfl rfl rfl ?_
    refine Qa rfl (OpT_mapUpdate keyI y1 true (V := vB) (z := false) rfl rfl rfl rfl rfl rfl Try.underlying157 Try.underlying3 (i := 0) rfl rfl) ?_
    refine Qd (tZ [3, 7, 8, 9] [0] [0] rfl rfl rfl rfl ?_)
    refine Zx (Qc (Qa rfl (Qf rfl rfl rfl rfl rfl (QG (a := x1) (b := (1 : Int)))) ?_))
    refine sMv rfl rfl rfl ?_
    refine Qd (tZ [3, 7, 8, 9] [0] [0] rfl rfl rfl rfl ?_)
    exact QY (mput y1 true map1, wi (x1 + (1 : Int))) h [3, 7, 8, 9] [0] [0] rfl rfl rfl rfl rfl
 ·replace h := br_f hg1 h
  refine Qp (cgb hg1) ?_
  refine Zv _ rfl ?_
  refine Qe (Qc (sAs rfl rfl rfl ?_))
  refine Qd (tZ [2] [] [] rfl rfl rfl rfl ?_)
  obtain rfl := Option.some.inj h
  exact Qn rfl rfl (resA (vs := [vB true]) rfl ⟨rfl, trivial⟩) [] [] rfl rfl rfl ⟨rfl, rfl, rfl⟩

set_option maxRecDepth 100000 in
set_option maxHeartbeats 4000000 in
theorem ZE {l : List (Option Int)} {vl1 : Value} {r : Int} (h : Zs l = some r) :
  Ctr Try.prog 63 #[vl1] [] [Fact.sl fnS132 vl1 l]
   (fun rv own shr => rv = vI r ∧ own = [] ∧ shr = []) := by
 unfold Zs at h
 refine Ctr.mk (args := [vl1]) Try.func63 rfl rfl (fun R0 w0 B => ?_)
 refine Qe (Qc (sAs rfl rfl rfl ?_))
 refine Qd (tZ [0] [] [0] rfl rfl rfl rfl ?_)
 refine Qe (Qe (Qc (sMv rfl rfl rfl ?_)))
 refine Qa rfl (QT rfl rfl rfl rfl Try.underlying175 (i := 0) rfl) ?_
 refine sMv rfl rfl rfl ?_
 refine Qd (tZ [6, 7, 8] [] [0] rfl rfl rfl rfl ?_)
 refine QC (Zf (σ := Int) [6, 7, 8] [] [0] (fun s => ⟨[(6, some vl1), (7, some (vI (len l))), (8, some (vI s))], [], [Fact.sl fnS132 vl1 l]⟩) (fun nf1 s => build_firstL1 l nf1 s = some r) fuel (0 : Int) h rfl rfl rfl rfl rfl (fun s h => by cases h) ?_)
 rintro nf1 x1 h
 replace h : build_firstL1B l (build_firstL1 l nf1) x1 = some r := h
 unfold build_firstL1B at h
 refine Qe (Qc (Qa rfl (Qf rfl rfl rfl rfl rfl (QI (a := x1) (b := len l))) ?_))
 refine Qd (Qe ?_)
 rcases bC (decide (x1 < (len l))) with hg1 | hg1
 ·replace h := br_t hg1 h
  refine Ql (cgb hg1) ?_
  refine Qt (Qe (QC (Qe (Qc ?_))))
  obtain ⟨y1, hx1, h⟩ := ob_e h
  refine Qu rfl (Zb rfl rfl rfl rfl rfl slF175 (i := 0) rfl hx1) fun p1 => ?_
  refine Qu rfl (OpT_loadPF rfl rfl rfl rfl tyF132 (i := 1) rfl) fun v1 => ?_
  refine sAs rfl rfl rfl ?_
  refine Qd (tZ [6, 7, 8, 4] [] [0, 2] rfl rfl rfl rfl ?_)
  refine Qe (Qc (sMv rfl rfl rfl ?_))
  obtain ⟨y2, hx2, h⟩ := ob_e h
  refine Qa rfl (OpT_callF (u := vI y2) () rfl rfl rfl rfl (i := 1) rfl rfl rfl hx2 rfl) ?_
  refine sAs rfl rfl rfl ?_
  refine Qd (tZ [6, 7, 8, 5] [] [0] rfl rfl rfl rfl ?_)
  refine Qe (Qc (sMv rfl rfl rfl ?_))
  refine Qa rfl (Qf rfl rfl rfl rfl rfl (QL (a := y2) (b := (0 : Int)))) ?_
  refine Qd (tZ [6, 7, 8, 5, 15] [] [0] rfl rfl rfl rfl ?_)
  rcases bC (y2 != (0 : Int)) with hg2 | hg2
  ·replace h := br_t hg2 h
   refine Ql (cgb hg2) ?_
   refine Qe (Qc (sMv rfl rfl rfl ?_))
   refine sAs rfl rfl rfl ?_
   refine Qd (tZ [2] [] [] rfl rfl rfl rfl ?_)
   obtain rfl := Option.some.inj h
   exact Qn rfl rfl (resA (vs := [vI y2]) rfl ⟨rfl, trivial⟩) [] [] rfl rfl rfl ⟨rfl, rfl, rfl⟩
  ·replace h := br_f hg2 h
   refine Qp (cgb hg2) ?_
   refine Qt (Zx (Qc (Qa rfl (Qf rfl rfl rfl rfl rfl (QG (a := x1) (b := (1 : Int)))) ?_)))
   refine sMv rfl rfl rfl ?_
   refine Qd (tZ [6, 7, 8] [] [0] rfl rfl rfl rfl ?_)
   exact QY (wi (x1 + (1 : Int))) h [6, 7, 8] [] [0] rfl rfl rfl rfl rfl
 ·replace h := br_f hg1 h
  refine Qp (cgb hg1) ?_
  refine Zv _ rfl ?_
  refine Qe (Qc (sAs rfl rfl rfl ?_))
  refine Qd (tZ [2] [] [] rfl rfl rfl rfl ?_)
  obtain rfl := Option.some.inj h
  exact Qn rfl rfl (resA (vs := [vI (0 : Int)]) rfl ⟨rfl, trivial⟩) [] [] rfl rfl rfl ⟨rfl, rfl, rfl⟩

set_option maxRecDepth 100000 in
set_option maxHeartbeats 4000000 in
theorem w_build_split_made {dp0 : build_split} {sp1 : Seg} {more : Bool} {r : build_split} (h : YC dp0 sp1 more = some r) :
  Ctr Try.prog 134 #[.agg #[vU64 dp0.Desc.Addr, vU32 dp0.Desc.Len, vU16 dp0.Desc.Flags, vU16 dp0.Desc.Next, vI dp0.next], .agg #[vU64 sp1.At, vU32 sp1.Len, vB sp1.Write], vB more] [] []
   (fun rv own shr => rv = .iface 139 (.agg #[vU64 r.Desc.Addr, vU32 r.Desc.Len, vU16 r.Desc.Flags, vU16 r.Desc.Next, vI r.next]) ∧ own = [] ∧ shr = []) := by
 unfold YC at h
 refine Ctr.mk (args := [.agg #[vU64 dp0.Desc.Addr, vU32 dp0.Desc.Len, vU16 dp0.Desc.Flags, vU16 dp0.Desc.Next, vI dp0.next], .agg #[vU64 sp1.At, vU32 sp1.Len, vB sp1.Write], vB more]) Try.func134 rfl rfl (fun R0 w0 B => ?_)
 refine Qe (Qc (Qu rfl (ZA rfl rfl rfl rfl) fun b1 => ?_))
 refine Qu rfl (ZA rfl rfl rfl rfl) fun b2 => ?_
 refine sAs rfl rfl rfl ?_
 refine Qd (tZ [2, 3, 4] [0, 1] [] rfl rfl rfl rfl ?_)
 refine Qe (Qc (Qa rfl (Qi rfl rfl rfl rfl fldF46x0) ?_))
 refine Qa rfl (Qj rfl rfl rfl rfl QZ (i := 1) rfl rfl) ?_
 refine Qa rfl (Qi rfl rfl rfl rfl fldF46x1) ?_
 refine Qa rfl (Qj rfl rfl rfl rfl tyF33 (i := 1) rfl rfl) ?_
 refine Qa rfl (QE (v := .agg #[vU64 sp1.At, vU32 sp1.Len, vU16 (0 : UInt16), vU16 (0 : UInt16)]) rfl rfl rfl rfl (bldV (by kernel_rfl))) ?_
 refine Qa rfl (Qi rfl rfl rfl rfl Jh) ?_
 refine Qa rfl (Qo (cs' := [vU64 sp1.At, vU32 sp1.Len, vU16 (0 : UInt16), vU16 (0 : UInt16), vI dp0.next]) rfl rfl rfl rfl tyF36 (i := 0) rfl rfl rfl (QF rfl) rfl) ?_
 refine Qd (tZ [2, 3, 4] [0, 1] [] rfl rfl rfl rfl ?_)
 refine Qe (Qe (Qc (Qa rfl (Qi rfl rfl rfl rfl fldF46x2) ?_)))
 refine Qa rfl (Qj rfl rfl rfl rfl tyF4 (i := 1) rfl rfl) ?_
 refine Qd (tZ [2, 3, 14] [0] [] rfl rfl rfl rfl ?_)
 refine Tk_join (α := build_split) (fun s => ⟨[(2, some (vB more)), (3, some (.pointer (some ⟨b1, 0, none⟩)))], [some (Qm b1 139 [vU64 s.Desc.Addr, vU32 s.Desc.Len, vU16 s.Desc.Flags, vU16 s.Desc.Next, vI s.next])], []⟩) (fun s => Xp more s = some r) ?_ ?_
 ·rintro m1 h
  replace h : Xp more m1 = some r := h
  unfold Xp at h
  refine Qe (Qe (Qc (sMv rfl rfl rfl ?_)))
  refine Qd (tZ [3, 21] [0] [] rfl rfl rfl rfl ?_)
  rcases bC (more) with hg1 | hg1
  ·replace h := br_t hg1 h
   refine Ql (cgb hg1) ?_
   refine Qe (Qc (Qa rfl (Qi rfl rfl rfl rfl Jh) ?_))
   refine Qa rfl (Qi rfl rfl rfl rfl Ki) ?_
   refine Qa rfl (Qj rfl rfl rfl rfl YP (i := 0) rfl rfl) ?_
   refine Qa rfl (Qf rfl rfl rfl rfl rfl (bin_or_u16 (a := m1.Desc.Flags) (b := (1 : UInt16)))) ?_
   refine Qa rfl (Qi rfl rfl rfl rfl Jh) ?_
   refine Qa rfl (Qi rfl rfl rfl rfl Ki) ?_
   refine Qa rfl (Qo (cs' := [vU64 m1.Desc.Addr, vU32 m1.Desc.Len, vU16 (m1.Desc.Flags ||| (1 : UInt16)), vU16 m1.Desc.Next, vI m1.next]) rfl rfl rfl rfl YP (i := 0) rfl rfl rfl (QF rfl) rfl) ?_
   refine Qd (tZ [3] [0] [] rfl rfl rfl rfl ?_)
   refine Qc (Qa rfl (Qi rfl rfl rfl rfl fldF139x1) ?_)
   refine Qa rfl (Qj rfl rfl rfl rfl tyF3 (i := 0) rfl rfl) ?_
   refine Qa rfl (QX rfl rfl rfl rfl (cnv_i_u16 (n := m1.next) Try.underlying3 Try.underlying34)) ?_
   refine Qa rfl (Qi rfl rfl rfl rfl Jh) ?_
   refine Qa rfl (Qi rfl rfl rfl rfl fldF36x3) ?_
   refine Qa rfl (Qo (cs' := [vU64 m1.Desc.Addr, vU32 m1.Desc.Len, vU16 (m1.Desc.Flags ||| (1 : UInt16)), vU16 (u16 m1.next), vI m1.next]) rfl rfl rfl rfl YP (i := 0) rfl rfl rfl (QF rfl) rfl) ?_
   refine Qd (tZ [3] [0] [] rfl rfl rfl rfl ?_)
   refine Qe (Qc (Qa rfl (Qy (vs := [vU64 m1.Desc.Addr, vU32 m1.Desc.Len, vU16 (m1.Desc.Flags ||| (1 : UInt16)), vU16 (u16 m1.next), vI m1.next]) rfl rfl rfl rfl tyF139 (i := 0) rfl rfl rfl) ?_))
   refine Qa rfl (OpT_mkIf rfl rfl rfl rfl mkif139) ?_
   refine sAs rfl rfl rfl ?_
   refine Qd (tZ [6] [] [] rfl rfl rfl rfl ?_)
   obtain rfl := Option.some.inj h
   exact Qn rfl rfl (resA (vs := [.iface 139 (.agg #[vU64 m1.Desc.Addr, vU32 m1.Desc.Len, vU16 (m1.Desc.Flags ||| (1 : UInt16)), vU16 (u16 m1.next), vI m1.next])]) rfl ⟨rfl, trivial⟩) [] [] rfl rfl rfl ⟨rfl, rfl, rfl⟩
  ·replace h := br_f hg1 h
   refine Qp (cgb hg1) ?_
   refine Qt (Qe (Qc (Qa rfl (Qy (vs := [vU64 m1.Desc.Addr, vU32 m1.Desc.Len, vU16 m1.Desc.Flags, vU16 m1.Desc.Next, vI m1.next]) rfl rfl rfl rfl tyF139 (i := 0) rfl rfl rfl) ?_)))
   refine Qa rfl (OpT_mkIf rfl rfl rfl rfl mkif139) ?_
   refine sAs rfl rfl rfl ?_
   refine Qd (tZ [6] [] [] rfl rfl rfl rfl ?_)
   obtain rfl := Option.some.inj h
   exact Qn rfl rfl (resA (vs := [.iface 139 (.agg #[vU64 m1.Desc.Addr, vU32 m1.Desc.Len, vU16 m1.Desc.Flags, vU16 m1.Desc.Next, vI m1.next])]) rfl ⟨rfl, trivial⟩) [] [] rfl rfl rfl ⟨rfl, rfl, rfl⟩
 ·intro HJ1
  rcases bC (sp1.Write) with hg2 | hg2
  ·replace h := br_t hg2 h
   refine Ql (cgb hg2) ?_
   refine Qc (Qa rfl (Qi rfl rfl rfl rfl Jh) ?_)
   refine Qa rfl (Qi rfl rfl rfl rfl Ki) ?_
   refine Qa rfl (Qj rfl rfl rfl rfl YP (i := 0) rfl rfl) ?_
   refine Qa rfl (Qf rfl rfl rfl rfl rfl (bin_or_u16 (a := (0 : UInt16)) (b := (2 : UInt16)))) ?_
   refine Qa rfl (Qi rfl rfl rfl rfl Jh) ?_
   refine Qa rfl (Qi rfl rfl rfl rfl Ki) ?_
   refine Qa rfl (Qo (cs' := [vU64 sp1.At, vU32 sp1.Len, vU16 ((0 : UInt16) ||| (2 : UInt16)), vU16 (0 : UInt16), vI dp0.next]) rfl rfl rfl rfl YP (i := 0) rfl rfl rfl (QF rfl) rfl) ?_
   refine Qd (tZ [2, 3] [0] [] rfl rfl rfl rfl ?_)
   exact XA (HJ1 (build_split.mk (Desc.mk sp1.At sp1.Len ((0 : UInt16) ||| (2 : UInt16)) (0 : UInt16)) dp0.next) h) [2, 3] [0] [] rfl rfl rfl rfl
  ·replace h := br_f hg2 h
   refine Qp (cgb hg2) ?_
   refine Qt ?_
   exact XA (HJ1 (build_split.mk (Desc.mk sp1.At sp1.Len (0 : UInt16) (0 : UInt16)) dp0.next) h) [2, 3] [0] [] rfl rfl rfl rfl

set_option maxRecDepth 100000 in
set_option maxHeartbeats 4000000 in
theorem Yh {l : List Seg} {of : Int → Option build_split} {vl1 : Value} {vof1 : Value} {r : (List build_split)} (h : Zn l of = some r) :
  Ctr Try.prog 67 #[vl1, vof1] [] [Fact.sl SegS vl1 l, Fact.fn Try.prog (fun (x : Int) => [vI x]) (fun (x : build_split) => .agg #[vU64 x.Desc.Addr, vU32 x.Desc.Len, vU16 x.Desc.Flags, vU16 x.Desc.Next, vI x.next]) vof1 of]
   (fun rv own shr => ∃ (w1 : Value), rv = w1 ∧ own = [(rowS ZC w1 r)] ∧ shr = []) := by
 unfold Zn at h
 refine Ctr.mk (args := [vl1, vof1]) Try.func67 rfl rfl (fun R0 w0 B => ?_)
 refine Qe (Qc (sAs rfl rfl rfl ?_))
 refine Qd (tZ [0, 1] [] [0, 1] rfl rfl rfl rfl ?_)
 refine Qe (Qc (sMv rfl rfl rfl ?_))
 refine Qa rfl (QT rfl rfl rfl rfl Try.underlying41 (i := 0) rfl) ?_
 obtain ⟨hc1, h⟩ := ZK h
 refine Qu rfl (OpT_makeD ZC rfl (u := (build_split.mk (Desc.mk (0 : UInt64) (0 : UInt32) (0 : UInt16) (0 : UInt16)) (0 : Int))) rfl rfl rfl rfl rfl slF136 rfl hc1) fun v1 => ?_
 refine sAs rfl rfl rfl ?_
 refine Qd (tZ [0, 1, 5] [0] [0, 1] rfl rfl rfl rfl ?_)
 refine Qe (Qe (Qc (sMv rfl rfl rfl ?_)))
 refine Qa rfl (QT rfl rfl rfl rfl Try.underlying41 (i := 0) rfl) ?_
 refine sMv rfl rfl rfl ?_
 refine Qd (QC (Zf (σ := (List build_split) × Int × Value) [0, 1, 5, 11, 12, 13] [0] [0, 1] (fun s => ⟨[(0, some vl1), (1, some vof1), (5, some (s.2.2)), (11, some vl1), (12, some (vI (len l))), (13, some (vI s.2.1))], [some (rowS ZC s.2.2 s.1)], [Fact.sl SegS vl1 l, Fact.fn Try.prog (fun (x : Int) => [vI x]) (fun (x : build_split) => .agg #[vU64 x.Desc.Addr, vU32 x.Desc.Len, vU16 x.Desc.Flags, vU16 x.Desc.Next, vI x.next]) vof1 of]⟩) (fun nf1 s => ZJ l of nf1 s.1 s.2.1 = some r) fuel (List.replicate (0 : Int).toNat (build_split.mk (Desc.mk (0 : UInt64) (0 : UInt32) (0 : UInt16) (0 : UInt16)) (0 : Int)), (0 : Int), v1) h rfl rfl rfl rfl rfl (fun s h => by cases h) ?_))
 rintro nf1 ⟨out1, x1, v2⟩ h
 replace h : Xi l of (ZJ l of nf1) out1 x1 = some r := h
 unfold Xi at h
 refine Qe (Qc (Qa rfl (Qf rfl rfl rfl rfl rfl (QI (a := x1) (b := len l))) ?_))
 refine Qd (Qe ?_)
 rcases bC (decide (x1 < (len l))) with hg1 | hg1
 ·replace h := br_t hg1 h
  refine Ql (cgb hg1) ?_
  refine Qt (Qe (QC (Qe (Qc (sMv rfl rfl rfl ?_)))))
  obtain ⟨s1, hx1, h⟩ := ob_e h
  refine Qu rfl (Zb rfl rfl rfl rfl rfl slF41 (i := 0) rfl hx1) fun p1 => ?_
  refine Qa rfl (Xs (vs := [vU64 s1.At, vU32 s1.Len, vB s1.Write]) rfl rfl rfl rfl tyF46 (i := 2) rfl rfl) ?_
  refine Qu rfl (QD rfl rfl rfl tyZ46) fun b1 => ?_
  refine sAs rfl rfl rfl ?_
  refine Qa rfl (Qo (cs' := [vU64 s1.At, vU32 s1.Len, vB s1.Write]) rfl rfl rfl rfl tyF46 (i := 1) rfl rfl rfl (QF rfl) rfl) ?_
  refine Qd (tZ [0, 1, 5, 11, 12, 13, 7, 6] [0, 1] [0, 1] rfl rfl rfl rfl ?_)
  refine QU (by kernel_rfl) ?_
  refine Xn [0, 0, 0, 6, 14, 0, 0, 64, 0, 256, 960, 2046, 4094, 8190, 16383, 32767] (by kernel_rfl) fun htb => ?_
  obtain ⟨y1, hx2, h⟩ := ob_e h
  obtain ⟨made1, hx3, h⟩ := ob_e h
  refine QW (lo := 0) (hi := 14) htb rfl rfl (by kernel_rfl) (fun c L a w => ∃ (v3 : Value), Sat c ⟨[(0, some vl1), (1, some vof1), (5, some v2), (11, some vl1), (12, some (vI (len l))), (13, some (vI x1)), (7, some (.pointer (some ⟨b1, 0, none⟩))), (6, some (vI x1)), (18, bif L 0 then some (v2) else none), (19, bif L 1 then some (vof1) else none), (20, bif L 2 then some (vI x1) else none), (21, bif L 3 then some (.agg #[vU64 y1.Desc.Addr, vU32 y1.Desc.Len, vU16 y1.Desc.Flags, vU16 y1.Desc.Next, vI y1.next]) else none), (22, bif L 4 then some (.iface 139 (.agg #[vU64 y1.Desc.Addr, vU32 y1.Desc.Len, vU16 y1.Desc.Flags, vU16 y1.Desc.Next, vI y1.next])) else none), (23, bif L 5 then some (.agg #[vU64 s1.At, vU32 s1.Len, vB s1.Write]) else none), (24, bif L 6 then some (vI x1) else none), (25, bif L 7 then some (vI (wi (x1 + (1 : Int)))) else none), (26, bif L 8 then some (vl1) else none), (27, bif L 9 then some (vI (len l)) else none), (28, bif L 10 then some (vB (decide ((wi (x1 + (1 : Int))) < (len l)))) else none), (29, bif L 11 then some (.iface 139 (.agg #[vU64 made1.Desc.Addr, vU32 made1.Desc.Len, vU16 made1.Desc.Flags, vU16 made1.Desc.Next, vI made1.next])) else none), (30, bif L 12 then some (.agg #[vU64 made1.Desc.Addr, vU32 made1.Desc.Len, vU16 made1.Desc.Flags, vU16 made1.Desc.Next, vI made1.next]) else none), (31, bif L 13 then some (v3) else none)], [(some (rowS ZC v2 out1) : Option Res), (some (Qm b1 46 [vU64 s1.At, vU32 s1.Len, vB s1.Write]) : Option Res), (bif L 13 then some (rowS ZC v3 [made1]) else none : Option Res)], [Fact.sl SegS vl1 l, Fact.fn Try.prog (fun (x : Int) => [vI x]) (fun (x : build_split) => .agg #[vU64 x.Desc.Addr, vU32 x.Desc.Len, vU16 x.Desc.Flags, vU16 x.Desc.Next, vI x.next]) vof1 of]⟩ a w) [([], []), ([], [3, 4, 11, 12, 13]), ([], [3, 4, 11, 12, 13]), ([1, 2], [4, 11, 12, 13]), ([1, 2, 3], [11, 12, 13]), ([], [11, 12, 13]), ([], [7, 10, 11, 12, 13]), ([6], [10, 11, 12, 13]), ([], [9, 10, 11, 12, 13]), ([8], [10, 11, 12, 13]), ([6, 7, 8, 9], [11, 12, 13]), ([1, 2, 3, 4, 5, 6, 7, 8, 9, 10], [12, 13]), ([1, 2, 3, 4, 5, 6, 7, 8, 9, 10, 11], [13]), ([1, 2, 3, 4, 5, 6, 7, 8, 9, 10, 11, 12], [])] rfl (by kernel_rfl) ?_ (Qb ?_ (Qb ?_ (Qb ?_ (Qb ?_ (Qb ?_ (Qb ?_ (Qb ?_ (Qb ?_ (Qb ?_ (Qb ?_ (Qb ?_ (Qb ?_ (Qb ?_ (Qb ?_ (QB))))))))))))))) ?_
  ·intro a w hs
   exact ⟨undef, hs.startF [18, 19, 20, 21, 22, 23, 24, 25, 26, 27, 28, 29, 30, 31] [0, 1, 2] [0, 1] rfl rfl rfl rfl⟩
  ·intro L a w hv K Q hK
   obtain ⟨v3, hs⟩ := hv
   exact wGo rfl rfl hs (Qk rfl rfl rfl rfl) fun a w hs => hK a w ⟨v3, pF hs 8 [0, 1, 2] [0, 1] rfl⟩
  ·intro L a w hv K Q hK
   obtain ⟨v3, hs⟩ := hv
   exact wGo rfl rfl hs (Qk rfl rfl rfl rfl) fun a w hs => hK a w ⟨v3, pF hs 9 [0, 1, 2] [0, 1] rfl⟩
  ·intro L a w hv K Q hK
   obtain ⟨v3, hs⟩ := hv
   exact wGo rfl rfl hs (Qk rfl rfl rfl rfl) fun a w hs => hK a w ⟨v3, pF hs 10 [0, 1, 2] [0, 1] rfl⟩
  ·intro L a w hv K Q hK
   obtain ⟨v3, hs⟩ := hv
   exact wGo rfl rfl hs (OpT_callF (u := .agg #[vU64 y1.Desc.Addr, vU32 y1.Desc.Len, vU16 y1.Desc.Flags, vU16 y1.Desc.Next, vI y1.next]) x1 rfl rfl rfl rfl (i := 1) rfl rfl rfl hx2 rfl) fun a w hs => hK a w ⟨v3, pF hs 11 [0, 1, 2] [0, 1] rfl⟩
  ·intro L a w hv K Q hK
   obtain ⟨v3, hs⟩ := hv
   exact wGo rfl rfl hs (OpT_mkIf rfl rfl rfl rfl mkif139) fun a w hs => hK a w ⟨v3, pF hs 12 [0, 1, 2] [0, 1] rfl⟩
  ·intro L a w hv K Q hK
   obtain ⟨v3, hs⟩ := hv
   exact wGo rfl rfl hs (Qy (vs := [vU64 s1.At, vU32 s1.Len, vB s1.Write]) rfl rfl rfl rfl tyF46 (i := 1) rfl rfl rfl) fun a w hs => hK a w ⟨v3, pF hs 13 [0, 1, 2] [0, 1] rfl⟩
  ·intro L a w hv K Q hK
   obtain ⟨v3, hs⟩ := hv
   exact wGo rfl rfl hs (Qk rfl rfl rfl rfl) fun a w hs => hK a w ⟨v3, pF hs 14 [0, 1, 2] [0, 1] rfl⟩
  ·intro L a w hv K Q hK
   obtain ⟨v3, hs⟩ := hv
   exact wGo rfl rfl hs (Qf rfl rfl rfl rfl rfl (QG (a := x1) (b := (1 : Int)))) fun a w hs => hK a w ⟨v3, pF hs 15 [0, 1, 2] [0, 1] rfl⟩
  ·intro L a w hv K Q hK
   obtain ⟨v3, hs⟩ := hv
   exact wGo rfl rfl hs (Qk rfl rfl rfl rfl) fun a w hs => hK a w ⟨v3, pF hs 16 [0, 1, 2] [0, 1] rfl⟩
  ·intro L a w hv K Q hK
   obtain ⟨v3, hs⟩ := hv
   exact wGo rfl rfl hs (QT rfl rfl rfl rfl Try.underlying41 (i := 0) rfl) fun a w hs => hK a w ⟨v3, pF hs 17 [0, 1, 2] [0, 1] rfl⟩
  ·intro L a w hv K Q hK
   obtain ⟨v3, hs⟩ := hv
   exact wGo rfl rfl hs (Qf rfl rfl rfl rfl rfl (QI (a := wi (x1 + (1 : Int))) (b := len l))) fun a w hs => hK a w ⟨v3, pF hs 18 [0, 1, 2] [0, 1] rfl⟩
  ·intro L a w hv K Q hK
   obtain ⟨v3, hs⟩ := hv
   refine QO rfl rfl hs (OpT_invoke (w_build_split_made hx3) [] [] rfl rfl rfl rfl rfl ⟨meth139x134, callee134⟩ rfl rfl rfl rfl) ?_
   rintro _ ⟨_, _, _, ⟨rfl, rfl, rfl⟩, rfl⟩ a' w' hs'
   exact hK a' w' ⟨v3, hs'.putF (i := 19) rfl [0, 1, 2] [0, 1] rfl rfl rfl rfl⟩
  ·intro L a w hv K Q hK
   obtain ⟨v3, hs⟩ := hv
   exact wGo rfl rfl hs (OpT_asrt rfl rfl rfl rfl asrt177x139) fun a w hs => hK a w ⟨v3, pF hs 20 [0, 1, 2] [0, 1] rfl⟩
  ·intro L a w hv K Q hK
   obtain ⟨v3, hs⟩ := hv
   refine QO rfl rfl hs (QK (S := ZC) (xs := [made1]) (css := [[vU64 made1.Desc.Addr, vU32 made1.Desc.Len, vU16 made1.Desc.Flags, vU16 made1.Desc.Next, vI made1.next]]) (cs := [vU64 made1.Desc.Addr, vU32 made1.Desc.Len, vU16 made1.Desc.Flags, vU16 made1.Desc.Next, vI made1.next]) (e := 139) rfl rfl rfl rfl (bldF slF136 (by decide) (by kernel_rfl)) rfl rfl rfl rfl (Zd (S := ZC) (xs := [made1]) (css := [[vU64 made1.Desc.Addr, vU32 made1.Desc.Len, vU16 made1.Desc.Flags, vU16 made1.Desc.Next, vI made1.next]]) rfl rfl)) ?_
   rintro _ ⟨v3', rfl⟩ a' w' hs'
   exact hK a' w' ⟨v3', hs'.putF (i := 21) rfl [0, 1, 3] [0, 1] rfl rfl rfl rfl⟩
  ·intro L a w hL hv
   rw [QM hL] at hv
   obtain ⟨v3, hs⟩ := hv
   refine gZ hs [0, 1, 11, 12, 13, 18, 31] [0, 2] [0, 1] rfl rfl rfl rfl ?_
   clear hs hL
   obtain ⟨hc2, h⟩ := ZK h
   refine TA_ex htb (by kernel_rfl) rfl rfl (Zw (S := ZC) rfl rfl rfl rfl rfl rfl slF136 (i := 0) (j := 1) rfl rfl hc2) fun v4 => ?_
   refine Qx htb (by kernel_rfl) rfl rfl (QN rfl rfl rfl rfl) ?_
   refine Zh rfl ?_
   refine tZ [0, 1, 11, 12, 13, 5] [0] [0, 1] rfl rfl rfl rfl ?_
   refine Zx (Qc (Qa rfl (Qf rfl rfl rfl rfl rfl (QG (a := x1) (b := (1 : Int)))) ?_))
   refine sMv rfl rfl rfl ?_
   refine Qd (tZ [0, 1, 11, 12, 13, 5] [0] [0, 1] rfl rfl rfl rfl ?_)
   exact QY (out1 ++ [made1], wi (x1 + (1 : Int)), v4) h [0, 1, 5, 11, 12, 13] [0] [0, 1] rfl rfl rfl rfl rfl
 ·replace h := br_f hg1 h
  refine Qp (cgb hg1) ?_
  refine Zv _ rfl ?_
  refine Qe (Qc (sMv rfl rfl rfl ?_))
  refine sAs rfl rfl rfl ?_
  refine Qd (tZ [4] [0] [] rfl rfl rfl rfl ?_)
  obtain rfl := Option.some.inj h
  exact Qn rfl rfl (resA (vs := [v2]) rfl ⟨rfl, trivial⟩) [0] [] rfl rfl rfl ⟨v2, rfl, rfl, rfl⟩

set_option maxRecDepth 100000 in
set_option maxHeartbeats 4000000 in
theorem w_build_Split_1 {ip0 : Int} {arg1 : List Int} {parg11 : Value} {r : build_split} (h : Xy ip0 arg1 = some r) :
  Ctr Try.prog 68 #[vI ip0, parg11] [] [Fact.pt (Shape.slice iS) parg11 arg1]
   (fun rv own shr => rv = .agg #[vU64 r.Desc.Addr, vU32 r.Desc.Len, vU16 r.Desc.Flags, vU16 r.Desc.Next, vI r.next] ∧ own = [] ∧ shr = []) := by
 unfold Xy at h
 refine Ctr.mk (args := [vI ip0, parg11]) Try.func68 rfl rfl (fun R0 w0 B => ?_)
 refine Qe (Qc (Qu rfl (QD rfl rfl rfl tyZ139) fun b1 => ?_))
 refine Qd (Qe (Qe (Qc (sMv rfl rfl rfl ?_))))
 refine Qa rfl (Qf rfl rfl rfl rfl rfl (QG (a := ip0) (b := (1 : Int)))) ?_
 refine Qu rfl (Yn rfl rfl rfl rfl tyF32 (i := 0) rfl) fun v1 => ?_
 refine Qa rfl (QT rfl rfl rfl rfl Try.underlying32 (i := 1) rfl) ?_
 refine Qa rfl (Qf rfl rfl rfl rfl rfl (QI (a := wi (ip0 + (1 : Int))) (b := len arg1))) ?_
 refine Qd (tZ [0, 1, 3, 8] [0] [0] rfl rfl rfl rfl ?_)
 rcases bC (decide ((wi (ip0 + (1 : Int))) < (len arg1))) with hg1 | hg1
 ·replace h := br_t hg1 h
  refine Ql (cgb hg1) ?_
  refine Qe (Qc (Qu rfl (Yn rfl rfl rfl rfl tyF32 (i := 0) rfl) fun v2 => ?_))
  refine sMv rfl rfl rfl ?_
  refine Qa rfl (Qf rfl rfl rfl rfl rfl (QG (a := ip0) (b := (1 : Int)))) ?_
  obtain ⟨y1, hx1, h⟩ := ob_e h
  refine Qu rfl (Zb rfl rfl rfl rfl rfl slF32 (i := 1) rfl hx1) fun p1 => ?_
  refine Qa rfl (Zj rfl rfl rfl rfl tyF3 (i := 2) rfl rfl) ?_
  refine Qa rfl (QE (v := .agg #[vU64 (0 : UInt64), vU32 (0 : UInt32), vU16 (0 : UInt16), vU16 (0 : UInt16), vI y1]) rfl rfl rfl rfl (bldV (by kernel_rfl))) ?_
  refine Qa rfl (Qo (cs' := [vU64 (0 : UInt64), vU32 (0 : UInt32), vU16 (0 : UInt16), vU16 (0 : UInt16), vI y1]) rfl rfl rfl rfl tyF139 (i := 0) rfl rfl rfl (QF rfl) rfl) ?_
  refine Qd (tZ [3] [0] [] rfl rfl rfl rfl ?_)
  obtain rfl := Option.some.inj h
  exact Qn rfl rfl (resA (vs := [.agg #[vU64 (0 : UInt64), vU32 (0 : UInt32), vU16 (0 : UInt16), vU16 (0 : UInt16), vI y1]]) rfl ⟨⟨_, 0, _, _, _, rfl, rfl, .inl ⟨tyF139, rfl, rfl⟩⟩, trivial⟩) [] [] rfl rfl rfl ⟨rfl, rfl, rfl⟩
 ·replace h := br_f hg1 h
  refine Qp (cgb hg1) ?_
  refine Qt (Qe (Qc (Qa rfl (QE (v := .agg #[vU64 (0 : UInt64), vU32 (0 : UInt32), vU16 (0 : UInt16), vU16 (0 : UInt16), vI (0 : Int)]) rfl rfl rfl rfl (bldV (by kernel_rfl))) ?_)))
  refine Qa rfl (Qo (cs' := [vU64 (0 : UInt64), vU32 (0 : UInt32), vU16 (0 : UInt16), vU16 (0 : UInt16), vI (0 : Int)]) rfl rfl rfl rfl tyF139 (i := 0) rfl rfl rfl (QF rfl) rfl) ?_
  refine Qd (tZ [3] [0] [] rfl rfl rfl rfl ?_)
  obtain rfl := Option.some.inj h
  exact Qn rfl rfl (resA (vs := [.agg #[vU64 (0 : UInt64), vU32 (0 : UInt32), vU16 (0 : UInt16), vU16 (0 : UInt16), vI (0 : Int)]]) rfl ⟨⟨_, 0, _, _, _, rfl, rfl, .inl ⟨tyF139, rfl, rfl⟩⟩, trivial⟩) [] [] rfl rfl rfl ⟨rfl, rfl, rfl⟩

set_option maxRecDepth 100000 in
set_option maxHeartbeats 4000000 in
theorem w_build_Split {ids : List Int} {l : List Seg} {vids1 : Value} {vl1 : Value} {r : ((List Put) × Int)} (h : build_Split ids l = some r) :
  Ctr Try.prog 28 #[vids1, vl1] [] [Fact.sl iS vids1 ids, Fact.sl SegS vl1 l]
   (fun rv own shr => ∃ (w1 : Value), rv = .tuple #[w1, vI r.2] ∧ own = [(rowS PutS w1 r.1)] ∧ shr = []) := by
 unfold build_Split at h
 refine Ctr.mk (args := [vids1, vl1]) Try.func28 rfl rfl (fun R0 w0 B => ?_)
 refine Qe (Qc (Qu rfl (OpT_box1 rfl rfl rfl rfl (is_sl (i := 0) rfl)) fun b1 => ?_))
 refine sAs rfl rfl rfl ?_
 refine sAs rfl rfl rfl ?_
 refine Qd (tZ [1, 2] [0] [0, 1] rfl rfl rfl rfl ?_)
 refine Qe (Qe (QU (by kernel_rfl) ?_))
 refine Xn [0, 1, 0, 4, 0, 16, 60, 127, 255, 511, 1023, 2047, 4095, 8191, 16383, 32767] (by kernel_rfl) fun htb => ?_
 obtain ⟨buffer1, hx1, h⟩ := ob_e h
 refine QW (lo := 0) (hi := 7) htb rfl rfl (by kernel_rfl) (fun c L a w => ∃ (v1 : Value), Sat c ⟨[(1, some vl1), (2, some (.pointer (some ⟨b1, 0, none⟩))), (10, bif L 0 then some (vl1) else none), (11, bif L 1 then some (v1) else none), (12, bif L 2 then some (vids1) else none), (13, bif L 3 then some (vI (len ids)) else none), (14, bif L 4 then some (vl1) else none), (15, bif L 5 then some (vI (len l)) else none), (16, bif L 6 then some (vB ((len ids) != (len l))) else none)], [(some (Qm b1 32 [vids1]) : Option Res)], [Fact.sl iS vids1 ids, Fact.sl SegS vl1 l, (bif L 1 then Fact.fn Try.prog av0 vI v1 (fun _ => buffer1) else Fact.tt)]⟩ a w) [([], [1]), ([0], []), ([], [3, 6]), ([2], [6]), ([], [5, 6]), ([4], [6]), ([2, 3, 4, 5], [])] rfl (by kernel_rfl) ?_ (Qb ?_ (Qb ?_ (Qb ?_ (Qb ?_ (Qb ?_ (Qb ?_ (Qb ?_ (QB)))))))) ?_
 ·intro a w hs
  exact ⟨undef, hs.startF [10, 11, 12, 13, 14, 15, 16] [0] [0, 1, 2] rfl rfl rfl rfl⟩
 ·intro L a w hv K Q hK
  obtain ⟨v1, hs⟩ := hv
  exact wGo rfl rfl hs (Qk rfl rfl rfl rfl) fun a w hs => hK a w ⟨v1, pF hs 2 [0] [0, 1, 2] rfl⟩
 ·intro L a w hv K Q hK
  obtain ⟨v1, hs⟩ := hv
  refine QO rfl rfl hs (Qv (w_build_buffer hx1) [] [1] rfl rfl rfl rfl rfl callee64 rfl rfl rfl rfl) ?_
  rintro _ ⟨v1', _, _, ⟨_, rfl, rfl, rfl⟩, rfl⟩ a' w' hs'
  exact hK a' w' ⟨v1', hs'.putF (i := 3) rfl [0] [0, 1, 3] rfl rfl rfl rfl⟩
 ·intro L a w hv K Q hK
  obtain ⟨v1, hs⟩ := hv
  exact wGo rfl rfl hs (Qj rfl rfl rfl rfl tyF32 (i := 0) rfl rfl) fun a w hs => hK a w ⟨v1, pF hs 4 [0] [0, 1, 2] rfl⟩
 ·intro L a w hv K Q hK
  obtain ⟨v1, hs⟩ := hv
  exact wGo rfl rfl hs (QT rfl rfl rfl rfl Try.underlying32 (i := 0) rfl) fun a w hs => hK a w ⟨v1, pF hs 5 [0] [0, 1, 2] rfl⟩
 ·intro L a w hv K Q hK
  obtain ⟨v1, hs⟩ := hv
  exact wGo rfl rfl hs (Qk rfl rfl rfl rfl) fun a w hs => hK a w ⟨v1, pF hs 6 [0] [0, 1, 2] rfl⟩
 ·intro L a w hv K Q hK
  obtain ⟨v1, hs⟩ := hv
  exact wGo rfl rfl hs (QT rfl rfl rfl rfl Try.underlying41 (i := 1) rfl) fun a w hs => hK a w ⟨v1, pF hs 7 [0] [0, 1, 2] rfl⟩
 ·intro L a w hv K Q hK
  obtain ⟨v1, hs⟩ := hv
  exact wGo rfl rfl hs (Qf rfl rfl rfl rfl rfl (QL (a := len ids) (b := len l))) fun a w hs => hK a w ⟨v1, pF hs 8 [0] [0, 1, 2] rfl⟩
 ·intro L a w hL hv
  rw [QM hL] at hv
  obtain ⟨v1, hs⟩ := hv
  refine gZ hs [1, 2, 11, 16] [0] [0, 1, 2] rfl rfl rfl rfl ?_
  clear hs hL
  refine Qx htb (by kernel_rfl) rfl rfl (Qk rfl rfl rfl rfl) ?_
  rcases bC ((len ids) != (len l)) with hg1 | hg1
  ·replace h := br_t hg1 h
   refine KR htb (by kernel_rfl) rfl rfl rfl (cgb hg1) rfl rfl ?_
   refine KR htb (by kernel_rfl) rfl rfl rfl (cgb hg1) rfl rfl ?_
   refine KR htb (by kernel_rfl) rfl rfl rfl (cgb hg1) rfl rfl ?_
   refine Qx htb (by kernel_rfl) rfl rfl (Qr rfl rfl rfl (cgb hg1) rfl) ?_
   obtain ⟨wrong1, hx2, h⟩ := ob_e h
   refine Ka htb (by kernel_rfl) rfl rfl (Qv (ZN hx2) [] [] rfl rfl rfl rfl rfl Kj rfl rfl rfl rfl) ?_
   rintro _ ⟨v2, _, _, ⟨_, rfl, rfl, rfl⟩, rfl⟩
   refine TA_ex htb (by kernel_rfl) rfl rfl (ZS fnS132 (vs := [v1, v2]) (xs := [buffer1, wrong1]) rfl rfl rfl rfl rfl slF175 rfl rfl rfl (Xo (KL (i := 2) rfl) (Xo (KL (i := 3) rfl) (KX rfl)))) fun v3 => ?_
   refine aZ [1, 2, 23] [0, 1] [0, 1] rfl rfl rfl rfl ?_
   obtain ⟨first1, hx3, h⟩ := ob_e h
   refine Ka htb (by kernel_rfl) rfl rfl (Zu [1] [0, 1] (ZE hx3) [] rfl rfl rfl rfl rfl YO rfl rfl rfl rfl rfl rfl (Zl (Xa 1 rfl rfl) ZZ) (by rintro _ _ _ ⟨rfl, rfl, rfl⟩; exact ⟨rfl, XS⟩)) ?_
   rintro _ ⟨_, _, _, ⟨rfl, rfl, rfl⟩, rfl⟩
   refine Qx htb (by kernel_rfl) rfl rfl (QN rfl rfl rfl rfl) ?_
   refine Zh rfl ?_
   refine tZ [1, 2, 6] [0] [0, 1] rfl rfl rfl rfl ?_
   refine Qe (Qc (sMv rfl rfl rfl ?_))
   refine Qa rfl (Qf rfl rfl rfl rfl rfl (QL (a := first1) (b := (0 : Int)))) ?_
   refine Qd (tZ [1, 2, 6, 26] [0] [0, 1] rfl rfl rfl rfl ?_)
   rcases bC (first1 != (0 : Int)) with hg2 | hg2
   ·replace h := br_t hg2 h
    refine Ql (cgb hg2) ?_
    refine Qe (Qc (sMv rfl rfl rfl ?_))
    refine sAs rfl rfl rfl ?_
    refine sAs rfl rfl rfl ?_
    refine Qd (tZ [4, 5] [] [] rfl rfl rfl rfl ?_)
    refine Zr PutS ?_
    obtain rfl := Option.some.inj h
    exact Qn rfl rfl (resA (vs := [.slice none 0 0, vI first1]) rfl ⟨rfl, rfl, trivial⟩) [0] [] rfl rfl rfl ⟨(.slice none 0 0), rfl, rfl, rfl⟩
   ·replace h := br_f hg2 h
    refine Qp (cgb hg2) ?_
    refine Qt (Qe (Qc (sAs rfl rfl rfl ?_)))
    refine Qd (tZ [1, 2, 7] [0] [0, 1] rfl rfl rfl rfl ?_)
    refine Qe (Qe (Qc (sMv rfl rfl rfl ?_)))
    refine Qa rfl (Xm (vs := [.pointer (some ⟨b1, 0, none⟩)]) rfl rfl rfl rfl) ?_
    refine Yb (XP (Shape.slice iS) (x := ids) (i := 0) rfl (rel_sl (i := 0) rfl)) ?_
    refine Yb (vs_add (Fact.fn Try.prog (fun (x : Int) => [vI x]) (fun (x : build_split) => .agg #[vU64 x.Desc.Addr, vU32 x.Desc.Len, vU16 x.Desc.Flags, vU16 x.Desc.Next, vI x.next]) (.func (.func 68) #[] #[(.pointer (some ⟨b1, 0, none⟩))]) (fun x => Xy x ids)) (fun R hF => ⟨rfl, fun x r hx => ⟨68, [(.pointer (some ⟨b1, 0, none⟩))], [Fact.pt (Shape.slice iS) (.pointer (some ⟨b1, 0, none⟩)) ids], rfl, callee68, (KD (mem_at (i := 2) rfl hF) fal_nil), w_build_Split_1 hx⟩⟩)) ?_
    obtain ⟨split1, hx4, h⟩ := ob_e h
    refine Qs rfl (Qv (Yh hx4) [] [1, 3] rfl rfl rfl rfl rfl callee67 rfl rfl rfl rfl) ?_
    rintro _ ⟨v4, _, _, ⟨_, rfl, rfl, rfl⟩, rfl⟩
    refine Qa rfl (OpT_lenO rfl rfl rfl rfl Try.underlying136 (i := 1) rfl) ?_
    refine sMv rfl rfl rfl ?_
    refine Qd (tZ [2, 7, 30, 31, 32] [1] [2] rfl rfl rfl rfl ?_)
    refine QC (Zr PutS ?_)
    refine Zf (σ := (List Put) × (List build_split) × Int × Value × Value) [2, 7, 30, 31, 32] [1, 0] [0] (fun s => ⟨[(2, some (.pointer (some ⟨b1, 0, none⟩))), (7, some (s.2.2.2.1)), (30, some (s.2.2.2.2)), (31, some (vI (len split1))), (32, some (vI s.2.2.1))], [some (rowS PutS s.2.2.2.1 s.1), some (rowS ZC s.2.2.2.2 s.2.1)], [Fact.pt (Shape.slice iS) (.pointer (some ⟨b1, 0, none⟩)) ids]⟩) (fun nf1 s => Xz ids split1 nf1 s.1 s.2.1 s.2.2.1 = some r) fuel ([], split1, (0 : Int), (.slice none 0 0), v4) h rfl rfl rfl rfl rfl (fun s h => by cases h) ?_
    rintro nf1 ⟨out1, l1, x1, v5, v6⟩ h
    replace h : Ky ids split1 (Xz ids split1 nf1) out1 l1 x1 = some r := h
    unfold Ky at h
    refine Qe (Qc (Qa rfl (Qf rfl rfl rfl rfl rfl (QI (a := x1) (b := len split1))) ?_))
    refine Qd (Qe ?_)
    rcases bC (decide (x1 < (len split1))) with hg3 | hg3
    ·replace h := br_t hg3 h
     refine Ql (cgb hg3) ?_
     refine Qt (Qe (QC (Qe (Qc (sMv rfl rfl rfl ?_)))))
     obtain ⟨b2, hx5, h⟩ := ob_e h
     refine Qa rfl (ZR rfl rfl rfl rfl rfl slF136 (i := 1) rfl hx5) ?_
     refine Qa rfl (OpT_loadOA (S := ZC) (vs := [vU64 b2.Desc.Addr, vU32 b2.Desc.Len, vU16 b2.Desc.Flags, vU16 b2.Desc.Next, vI b2.next]) rfl rfl rfl rfl rfl tyF139 (i := 1) rfl hx5 rfl) ?_
     refine Qu rfl (QD rfl rfl rfl tyZ139) fun b3 => ?_
     refine sAs rfl rfl rfl ?_
     refine Qa rfl (Qo (cs' := [vU64 b2.Desc.Addr, vU32 b2.Desc.Len, vU16 b2.Desc.Flags, vU16 b2.Desc.Next, vI b2.next]) rfl rfl rfl rfl tyF139 (i := 2) rfl rfl rfl (QF rfl) rfl) ?_
     refine Qd (tZ [2, 7, 30, 31, 32, 9, 8] [0, 1, 2] [0] rfl rfl rfl rfl ?_)
     refine QU (by kernel_rfl) ?_
     refine Xn [0, 0, 0, 6, 14, 0, 32, 126, 254, 511, 1023] (by kernel_rfl) fun htb => ?_
     obtain ⟨y1, hx6, h⟩ := ob_e h
     refine QW (lo := 0) (hi := 9) htb rfl rfl (by kernel_rfl) (fun c L a w => ∃ (v7 : Value), ∃ (p1 : Value), ∃ (v8 : Value), Sat c ⟨[(2, some (.pointer (some ⟨b1, 0, none⟩))), (7, some v5), (30, some v6), (31, some (vI (len split1))), (32, some (vI x1)), (9, some (.pointer (some ⟨b3, 0, none⟩))), (8, some (vI x1)), (37, bif L 0 then some (v5) else none), (38, bif L 1 then some (v7) else none), (39, bif L 2 then some (vI x1) else none), (40, bif L 3 then some (p1) else none), (41, bif L 4 then some (vI y1) else none), (42, bif L 5 then some (.pointer (some ⟨b3, 0, none⟩)) else none), (43, bif L 6 then some (.agg #[vU64 b2.Desc.Addr, vU32 b2.Desc.Len, vU16 b2.Desc.Flags, vU16 b2.Desc.Next]) else none), (44, bif L 7 then some (.agg #[vI y1, vU64 b2.Desc.Addr, vU32 b2.Desc.Len, vU16 b2.Desc.Flags, vU16 b2.Desc.Next]) else none), (45, bif L 8 then some (v8) else none)], [(some (rowS PutS v5 out1) : Option Res), (some (rowS ZC v6 l1) : Option Res), (some (Qm b3 139 [vU64 b2.Desc.Addr, vU32 b2.Desc.Len, vU16 b2.Desc.Flags, vU16 b2.Desc.Next, vI b2.next]) : Option Res), (bif L 8 then some (rowS PutS v8 [(Put.mk y1 b2.Desc)]) else none : Option Res)], [Fact.pt (Shape.slice iS) (.pointer (some ⟨b1, 0, none⟩)) ids, (bif L 1 then Fact.sl iS v7 ids else Fact.tt), (bif L 3 then Fact.pt iS p1 y1 else Fact.tt)]⟩ a w) [([], []), ([], [3, 4, 7, 8]), ([], [3, 4, 7, 8]), ([1, 2], [4, 7, 8]), ([1, 2, 3], [7, 8]), ([], [6, 7, 8]), ([5], [7, 8]), ([1, 2, 3, 4, 5, 6], [8]), ([1, 2, 3, 4, 5, 6, 7], [])] rfl (by kernel_rfl) ?_ (Qb ?_ (Qb ?_ (Qb ?_ (Qb ?_ (Qb ?_ (Qb ?_ (Qb ?_ (Qb ?_ (Qb ?_ (QB)))))))))) ?_
     ·intro a w hs
      exact ⟨undef, undef, undef, hs.startF [37, 38, 39, 40, 41, 42, 43, 44, 45] [0, 1, 2, 3] [0, 1, 2] rfl rfl rfl rfl⟩
     ·intro L a w hv K Q hK
      obtain ⟨v7, p1, v8, hs⟩ := hv
      exact wGo rfl rfl hs (Qk rfl rfl rfl rfl) fun a w hs => hK a w ⟨v7, p1, v8, pF hs 7 [0, 1, 2, 3] [0, 1, 2] rfl⟩
     ·intro L a w hv K Q hK
      obtain ⟨v7, p1, v8, hs⟩ := hv
      refine QO rfl rfl hs (Yn rfl rfl rfl rfl tyF32 (i := 0) rfl) ?_
      rintro _ ⟨v7', rfl⟩ a' w' hs'
      exact hK a' w' ⟨v7', p1, v8, hs'.putF (i := 8) rfl [0, 1, 2, 3] [0, 3, 2] rfl rfl rfl rfl⟩
     ·intro L a w hv K Q hK
      obtain ⟨v7, p1, v8, hs⟩ := hv
      exact wGo rfl rfl hs (Qk rfl rfl rfl rfl) fun a w hs => hK a w ⟨v7, p1, v8, pF hs 9 [0, 1, 2, 3] [0, 1, 2] rfl⟩
     ·intro L a w hv K Q hK
      obtain ⟨v7, p1, v8, hs⟩ := hv
      refine QO rfl rfl hs (Zb rfl rfl rfl rfl rfl slF32 (i := 1) rfl hx6) ?_
      rintro _ ⟨p1', rfl⟩ a' w' hs'
      exact hK a' w' ⟨v7, p1', v8, hs'.putF (i := 10) rfl [0, 1, 2, 3] [0, 1, 3] rfl rfl rfl rfl⟩
     ·intro L a w hv K Q hK
      obtain ⟨v7, p1, v8, hs⟩ := hv
      exact wGo rfl rfl hs (Zj rfl rfl rfl rfl tyF3 (i := 2) rfl rfl) fun a w hs => hK a w ⟨v7, p1, v8, pF hs 11 [0, 1, 2, 3] [0, 1, 2] rfl⟩
     ·intro L a w hv K Q hK
      obtain ⟨v7, p1, v8, hs⟩ := hv
      exact wGo rfl rfl hs (Qi rfl rfl rfl rfl Jh) fun a w hs => hK a w ⟨v7, p1, v8, pF hs 12 [0, 1, 2, 3] [0, 1, 2] rfl⟩
     ·intro L a w hv K Q hK
      obtain ⟨v7, p1, v8, hs⟩ := hv
      exact wGo rfl rfl hs (Qy (vs := [vU64 b2.Desc.Addr, vU32 b2.Desc.Len, vU16 b2.Desc.Flags, vU16 b2.Desc.Next]) rfl rfl rfl rfl tyF36 (i := 2) rfl rfl rfl) fun a w hs => hK a w ⟨v7, p1, v8, pF hs 13 [0, 1, 2, 3] [0, 1, 2] rfl⟩
     ·intro L a w hv K Q hK
      obtain ⟨v7, p1, v8, hs⟩ := hv
      exact wGo rfl rfl hs (QE (v := .agg #[vI y1, vU64 b2.Desc.Addr, vU32 b2.Desc.Len, vU16 b2.Desc.Flags, vU16 b2.Desc.Next]) rfl rfl rfl rfl (bldV (by kernel_rfl))) fun a w hs => hK a w ⟨v7, p1, v8, pF hs 14 [0, 1, 2, 3] [0, 1, 2] rfl⟩
     ·intro L a w hv K Q hK
      obtain ⟨v7, p1, v8, hs⟩ := hv
      refine QO rfl rfl hs (QK (S := PutS) (xs := [(Put.mk y1 b2.Desc)]) (css := [[vI y1, vU64 b2.Desc.Addr, vU32 b2.Desc.Len, vU16 b2.Desc.Flags, vU16 b2.Desc.Next]]) (cs := [vI y1, vU64 b2.Desc.Addr, vU32 b2.Desc.Len, vU16 b2.Desc.Flags, vU16 b2.Desc.Next]) (e := 78) rfl rfl rfl rfl (bldF slF74 (by decide) (by kernel_rfl)) rfl rfl rfl rfl (Zd (S := PutS) (xs := [(Put.mk y1 b2.Desc)]) (css := [[vI y1, vU64 b2.Desc.Addr, vU32 b2.Desc.Len, vU16 b2.Desc.Flags, vU16 b2.Desc.Next]]) rfl rfl)) ?_
      rintro _ ⟨v8', rfl⟩ a' w' hs'
      exact hK a' w' ⟨v7, p1, v8', hs'.putF (i := 15) rfl [0, 1, 2, 4] [0, 1, 2] rfl rfl rfl rfl⟩
     ·intro L a w hL hv
      rw [QM hL] at hv
      obtain ⟨v7, p1, v8, hs⟩ := hv
      refine gZ hs [2, 30, 31, 32, 37, 45] [0, 1, 3] [0] rfl rfl rfl rfl ?_
      clear hs hL
      obtain ⟨hc1, h⟩ := ZK h
      refine TA_ex htb (by kernel_rfl) rfl rfl (Zw (S := PutS) rfl rfl rfl rfl rfl rfl slF74 (i := 0) (j := 2) rfl rfl hc1) fun v9 => ?_
      refine Qx htb (by kernel_rfl) rfl rfl (QN rfl rfl rfl rfl) ?_
      refine Zh rfl ?_
      refine tZ [2, 30, 31, 32, 7] [0, 1] [0] rfl rfl rfl rfl ?_
      refine Zx (Qc (Qa rfl (Qf rfl rfl rfl rfl rfl (QG (a := x1) (b := (1 : Int)))) ?_))
      refine sMv rfl rfl rfl ?_
      refine Qd (tZ [2, 30, 31, 32, 7] [0, 1] [0] rfl rfl rfl rfl ?_)
      exact QY (out1 ++ [(Put.mk y1 b2.Desc)], l1, wi (x1 + (1 : Int)), v9, v6) h [2, 7, 30, 31, 32] [0, 1] [0] rfl rfl rfl rfl rfl
    ·replace h := br_f hg3 h
     refine Qp (cgb hg3) ?_
     refine Zv _ rfl ?_
     refine Qe (Qc (sMv rfl rfl rfl ?_))
     refine sAs rfl rfl rfl ?_
     refine sAs rfl rfl rfl ?_
     refine Qd (tZ [4, 5] [0] [] rfl rfl rfl rfl ?_)
     obtain rfl := Option.some.inj h
     exact Qn rfl rfl (resA (vs := [v5, vI (0 : Int)]) rfl ⟨rfl, rfl, trivial⟩) [0] [] rfl rfl rfl ⟨v5, rfl, rfl, rfl⟩
  ·replace h := br_f hg1 h
   refine Xx htb (by kernel_rfl) rfl rfl rfl (cgb hg1) (Qj rfl rfl rfl rfl tyF32 (i := 0) rfl rfl) ?_
   rintro _ rfl
   obtain ⟨apart1, hx7, h⟩ := ob_e h
   refine Xx htb (by kernel_rfl) rfl rfl rfl (cgb hg1) (Qv (w_build_apart hx7) [] [0] rfl rfl rfl rfl rfl callee66 rfl rfl rfl rfl) ?_
   rintro _ ⟨_, _, _, ⟨rfl, rfl, rfl⟩, rfl⟩
   refine Xx htb (by kernel_rfl) rfl rfl rfl (cgb hg1) (XO rfl rfl rfl rfl) ?_
   rintro _ rfl
   refine Qx htb (by kernel_rfl) rfl rfl (Qw rfl rfl rfl (cgb hg1) rfl) ?_
   obtain ⟨wrong2, hx8, h⟩ := ob_e h
   refine Ka htb (by kernel_rfl) rfl rfl (Qv (ZN hx8) [] [] rfl rfl rfl rfl rfl Kj rfl rfl rfl rfl) ?_
   rintro _ ⟨v10, _, _, ⟨_, rfl, rfl, rfl⟩, rfl⟩
   refine TA_ex htb (by kernel_rfl) rfl rfl (ZS fnS132 (vs := [v1, v10]) (xs := [buffer1, wrong2]) rfl rfl rfl rfl rfl slF175 rfl rfl rfl (Xo (KL (i := 2) rfl) (Xo (KL (i := 3) rfl) (KX rfl)))) fun v11 => ?_
   refine aZ [1, 2, 23] [0, 1] [0, 1] rfl rfl rfl rfl ?_
   obtain ⟨first2, hx9, h⟩ := ob_e h
   refine Ka htb (by kernel_rfl) rfl rfl (Zu [1] [0, 1] (ZE hx9) [] rfl rfl rfl rfl rfl YO rfl rfl rfl rfl rfl rfl (Zl (Xa 1 rfl rfl) ZZ) (by rintro _ _ _ ⟨rfl, rfl, rfl⟩; exact ⟨rfl, XS⟩)) ?_
   rintro _ ⟨_, _, _, ⟨rfl, rfl, rfl⟩, rfl⟩
   refine Qx htb (by kernel_rfl) rfl rfl (QN rfl rfl rfl rfl) ?_
   refine Zh rfl ?_
   refine tZ [1, 2, 6] [0] [0, 1] rfl rfl rfl rfl ?_
   refine Qe (Qc (sMv rfl rfl rfl ?_))
   refine Qa rfl (Qf rfl rfl rfl rfl rfl (QL (a := first2) (b := (0 : Int)))) ?_
   refine Qd (tZ [1, 2, 6, 26] [0] [0, 1] rfl rfl rfl rfl ?_)
   rcases bC (first2 != (0 : Int)) with hg4 | hg4
   ·replace h := br_t hg4 h
    refine Ql (cgb hg4) ?_
    refine Qe (Qc (sMv rfl rfl rfl ?_))
    refine sAs rfl rfl rfl ?_
    refine sAs rfl rfl rfl ?_
    refine Qd (tZ [4, 5] [] [] rfl rfl rfl rfl ?_)
    refine Zr PutS ?_
    obtain rfl := Option.some.inj h
    exact Qn rfl rfl (resA (vs := [.slice none 0 0, vI first2]) rfl ⟨rfl, rfl, trivial⟩) [0] [] rfl rfl rfl ⟨(.slice none 0 0), rfl, rfl, rfl⟩
   ·replace h := br_f hg4 h
    refine Qp (cgb hg4) ?_
    refine Qt (Qe (Qc (sAs rfl rfl rfl ?_)))
    refine Qd (tZ [1, 2, 7] [0] [0, 1] rfl rfl rfl rfl ?_)
    refine Qe (Qe (Qc (sMv rfl rfl rfl ?_)))
    refine Qa rfl (Xm (vs := [.pointer (some ⟨b1, 0, none⟩)]) rfl rfl rfl rfl) ?_
    refine Yb (XP (Shape.slice iS) (x := ids) (i := 0) rfl (rel_sl (i := 0) rfl)) ?_
    refine Yb (vs_add (Fact.fn Try.prog (fun (x : Int) => [vI x]) (fun (x : build_split) => .agg #[vU64 x.Desc.Addr, vU32 x.Desc.Len, vU16 x.Desc.Flags, vU16 x.Desc.Next, vI x.next]) (.func (.func 68) #[] #[(.pointer (some ⟨b1, 0, none⟩))]) (fun x => Xy x ids)) (fun R hF => ⟨rfl, fun x r hx => ⟨68, [(.pointer (some ⟨b1, 0, none⟩))], [Fact.pt (Shape.slice iS) (.pointer (some ⟨b1, 0, none⟩)) ids], rfl, callee68, (KD (mem_at (i := 2) rfl hF) fal_nil), w_build_Split_1 hx⟩⟩)) ?_
    obtain ⟨split2, hx10, h⟩ := ob_e h
    refine Qs rfl (Qv (Yh hx10) [] [1, 3] rfl rfl rfl rfl rfl callee67 rfl rfl rfl rfl) ?_
    rintro _ ⟨v12, _, _, ⟨_, rfl, rfl, rfl⟩, rfl⟩
    refine Qa rfl (OpT_lenO rfl rfl rfl rfl Try.underlying136 (i := 1) rfl) ?_
    refine sMv rfl rfl rfl ?_
    refine Qd (tZ [2, 7, 30, 31, 32] [1] [2] rfl rfl rfl rfl ?_)
    refine QC (Zr PutS ?_)
    refine Zf (σ := (List Put) × (List build_split) × Int × Value × Value) [2, 7, 30, 31, 32] [1, 0] [0] (fun s => ⟨[(2, some (.pointer (some ⟨b1, 0, none⟩))), (7, some (s.2.2.2.1)), (30, some (s.2.2.2.2)), (31, some (vI (len split2))), (32, some (vI s.2.2.1))], [some (rowS PutS s.2.2.2.1 s.1), some (rowS ZC s.2.2.2.2 s.2.1)], [Fact.pt (Shape.slice iS) (.pointer (some ⟨b1, 0, none⟩)) ids]⟩) (fun nf2 s => Kl ids split2 nf2 s.1 s.2.1 s.2.2.1 = some r) fuel ([], split2, (0 : Int), (.slice none 0 0), v12) h rfl rfl rfl rfl rfl (fun s h => by cases h) ?_
    rintro nf2 ⟨out2, l2, x2, v13, v14⟩ h
    replace h : build_SplitL2B ids split2 (Kl ids split2 nf2) out2 l2 x2 = some r := h
    unfold build_SplitL2B at h
    refine Qe (Qc (Qa rfl (Qf rfl rfl rfl rfl rfl (QI (a := x2) (b := len split2))) ?_))
    refine Qd (Qe ?_)
    rcases bC (decide (x2 < (len split2))) with hg5 | hg5
    ·replace h := br_t hg5 h
     refine Ql (cgb hg5) ?_
     refine Qt (Qe (QC (Qe (Qc (sMv rfl rfl rfl ?_)))))
     obtain ⟨b4, hx11, h⟩ := ob_e h
     refine Qa rfl (ZR rfl rfl rfl rfl rfl slF136 (i := 1) rfl hx11) ?_
     refine Qa rfl (OpT_loadOA (S := ZC) (vs := [vU64 b4.Desc.Addr, vU32 b4.Desc.Len, vU16 b4.Desc.Flags, vU16 b4.Desc.Next, vI b4.next]) rfl rfl rfl rfl rfl tyF139 (i := 1) rfl hx11 rfl) ?_
     refine Qu rfl (QD rfl rfl rfl tyZ139) fun b5 => ?_
     refine sAs rfl rfl rfl ?_
     refine Qa rfl (Qo (cs' := [vU64 b4.Desc.Addr, vU32 b4.Desc.Len, vU16 b4.Desc.Flags, vU16 b4.Desc.Next, vI b4.next]) rfl rfl rfl rfl tyF139 (i := 2) rfl rfl rfl (QF rfl) rfl) ?_
     refine Qd (tZ [2, 7, 30, 31, 32, 9, 8] [0, 1, 2] [0] rfl rfl rfl rfl ?_)
     refine QU (by kernel_rfl) ?_
     refine Xn [0, 0, 0, 6, 14, 0, 32, 126, 254, 511, 1023] (by kernel_rfl) fun htb => ?_
     obtain ⟨y2, hx12, h⟩ := ob_e h
     refine QW (lo := 0) (hi := 9) htb rfl rfl (by kernel_rfl) (fun c L a w => ∃ (v15 : Value), ∃ (p2 : Value), ∃ (v16 : Value), Sat c ⟨[(2, some (.pointer (some ⟨b1, 0, none⟩))), (7, some v13), (30, some v14), (31, some (vI (len split2))), (32, some (vI x2)), (9, some (.pointer (some ⟨b5, 0, none⟩))), (8, some (vI x2)), (37, bif L 0 then some (v13) else none), (38, bif L 1 then some (v15) else none), (39, bif L 2 then some (vI x2) else none), (40, bif L 3 then some (p2) else none), (41, bif L 4 then some (vI y2) else none), (42, bif L 5 then some (.pointer (some ⟨b5, 0, none⟩)) else none), (43, bif L 6 then some (.agg #[vU64 b4.Desc.Addr, vU32 b4.Desc.Len, vU16 b4.Desc.Flags, vU16 b4.Desc.Next]) else none), (44, bif L 7 then some (.agg #[vI y2, vU64 b4.Desc.Addr, vU32 b4.Desc.Len, vU16 b4.Desc.Flags, vU16 b4.Desc.Next]) else none), (45, bif L 8 then some (v16) else none)], [(some (rowS PutS v13 out2) : Option Res), (some (rowS ZC v14 l2) : Option Res), (some (Qm b5 139 [vU64 b4.Desc.Addr, vU32 b4.Desc.Len, vU16 b4.Desc.Flags, vU16 b4.Desc.Next, vI b4.next]) : Option Res), (bif L 8 then some (rowS PutS v16 [(Put.mk y2 b4.Desc)]) else none : Option Res)], [Fact.pt (Shape.slice iS) (.pointer (some ⟨b1, 0, none⟩)) ids, (bif L 1 then Fact.sl iS v15 ids else Fact.tt), (bif L 3 then Fact.pt iS p2 y2 else Fact.tt)]⟩ a w) [([], []), ([], [3, 4, 7, 8]), ([], [3, 4, 7, 8]), ([1, 2], [4, 7, 8]), ([1, 2, 3], [7, 8]), ([], [6, 7, 8]), ([5], [7, 8]), ([1, 2, 3, 4, 5, 6], [8]), ([1, 2, 3, 4, 5, 6, 7], [])] rfl (by kernel_rfl) ?_ (Qb ?_ (Qb ?_ (Qb ?_ (Qb ?_ (Qb ?_ (Qb ?_ (Qb ?_ (Qb ?_ (Qb ?_ (QB)))))))))) ?_
     ·intro a w hs
      exact ⟨undef, undef, undef, hs.startF [37, 38, 39, 40, 41, 42, 43, 44, 45] [0, 1, 2, 3] [0, 1, 2] rfl rfl rfl rfl⟩
     ·intro L a w hv K Q hK
      obtain ⟨v15, p2, v16, hs⟩ := hv
      exact wGo rfl rfl hs (Qk rfl rfl rfl rfl) fun a w hs => hK a w ⟨v15, p2, v16, pF hs 7 [0, 1, 2, 3] [0, 1, 2] rfl⟩
     ·intro L a w hv K Q hK
      obtain ⟨v15, p2, v16, hs⟩ := hv
      refine QO rfl rfl hs (Yn rfl rfl rfl rfl tyF32 (i := 0) rfl) ?_
      rintro _ ⟨v15', rfl⟩ a' w' hs'
      exact hK a' w' ⟨v15', p2, v16, hs'.putF (i := 8) rfl [0, 1, 2, 3] [0, 3, 2] rfl rfl rfl rfl⟩
     ·intro L a w hv K Q hK
      obtain ⟨v15, p2, v16, hs⟩ := hv
      exact wGo rfl rfl hs (Qk rfl rfl rfl rfl) fun a w hs => hK a w ⟨v15, p2, v16, pF hs 9 [0, 1, 2, 3] [0, 1, 2] rfl⟩
     ·intro L a w hv K Q hK
      obtain ⟨v15, p2, v16, hs⟩ := hv
      refine QO rfl rfl hs (Zb rfl rfl rfl rfl rfl slF32 (i := 1) rfl hx12) ?_
      rintro _ ⟨p2', rfl⟩ a' w' hs'
      exact hK a' w' ⟨v15, p2', v16, hs'.putF (i := 10) rfl [0, 1, 2, 3] [0, 1, 3] rfl rfl rfl rfl⟩
     ·intro L a w hv K Q hK
      obtain ⟨v15, p2, v16, hs⟩ := hv
      exact wGo rfl rfl hs (Zj rfl rfl rfl rfl tyF3 (i := 2) rfl rfl) fun a w hs => hK a w ⟨v15, p2, v16, pF hs 11 [0, 1, 2, 3] [0, 1, 2] rfl⟩
     ·intro L a w hv K Q hK
      obtain ⟨v15, p2, v16, hs⟩ := hv
      exact wGo rfl rfl hs (Qi rfl rfl rfl rfl Jh) fun a w hs => hK a w ⟨v15, p2, v16, pF hs 12 [0, 1, 2, 3] [0, 1, 2] rfl⟩
     ·intro L a w hv K Q hK
      obtain ⟨v15, p2, v16, hs⟩ := hv
      exact wGo rfl rfl hs (Qy (vs := [vU64 b4.Desc.Addr, vU32 b4.Desc.Len, vU16 b4.Desc.Flags, vU16 b4.Desc.Next]) rfl rfl rfl rfl tyF36 (i := 2) rfl rfl rfl) fun a w hs => hK a w ⟨v15, p2, v16, pF hs 13 [0, 1, 2, 3] [0, 1, 2] rfl⟩
     ·intro L a w hv K Q hK
      obtain ⟨v15, p2, v16, hs⟩ := hv
      exact wGo rfl rfl hs (QE (v := .agg #[vI y2, vU64 b4.Desc.Addr, vU32 b4.Desc.Len, vU16 b4.Desc.Flags, vU16 b4.Desc.Next]) rfl rfl rfl rfl (bldV (by kernel_rfl))) fun a w hs => hK a w ⟨v15, p2, v16, pF hs 14 [0, 1, 2, 3] [0, 1, 2] rfl⟩
     ·intro L a w hv K Q hK
      obtain ⟨v15, p2, v16, hs⟩ := hv
      refine QO rfl rfl hs (QK (S := PutS) (xs := [(Put.mk y2 b4.Desc)]) (css := [[vI y2, vU64 b4.Desc.Addr, vU32 b4.Desc.Len, vU16 b4.Desc.Flags, vU16 b4.Desc.Next]]) (cs := [vI y2, vU64 b4.Desc.Addr, vU32 b4.Desc.Len, vU16 b4.Desc.Flags, vU16 b4.Desc.Next]) (e := 78) rfl rfl rfl rfl (bldF slF74 (by decide) (by kernel_rfl)) rfl rfl rfl rfl (Zd (S := PutS) (xs := [(Put.mk y2 b4.Desc)]) (css := [[vI y2, vU64 b4.Desc.Addr, vU32 b4.Desc.Len, vU16 b4.Desc.Flags, vU16 b4.Desc.Next]]) rfl rfl)) ?_
      rintro _ ⟨v16', rfl⟩ a' w' hs'
      exact hK a' w' ⟨v15, p2, v16', hs'.putF (i := 15) rfl [0, 1, 2, 4] [0, 1, 2] rfl rfl rfl rfl⟩
     ·intro L a w hL hv
      rw [QM hL] at hv
      obtain ⟨v15, p2, v16, hs⟩ := hv
      refine gZ hs [2, 30, 31, 32, 37, 45] [0, 1, 3] [0] rfl rfl rfl rfl ?_
      clear hs hL
      obtain ⟨hc2, h⟩ := ZK h
      refine TA_ex htb (by kernel_rfl) rfl rfl (Zw (S := PutS) rfl rfl rfl rfl rfl rfl slF74 (i := 0) (j := 2) rfl rfl hc2) fun v17 => ?_
      refine Qx htb (by kernel_rfl) rfl rfl (QN rfl rfl rfl rfl) ?_
      refine Zh rfl ?_
      refine tZ [2, 30, 31, 32, 7] [0, 1] [0] rfl rfl rfl rfl ?_
      refine Zx (Qc (Qa rfl (Qf rfl rfl rfl rfl rfl (QG (a := x2) (b := (1 : Int)))) ?_))
      refine sMv rfl rfl rfl ?_
      refine Qd (tZ [2, 30, 31, 32, 7] [0, 1] [0] rfl rfl rfl rfl ?_)
      exact QY (out2 ++ [(Put.mk y2 b4.Desc)], l2, wi (x2 + (1 : Int)), v17, v14) h [2, 7, 30, 31, 32] [0, 1] [0] rfl rfl rfl rfl rfl
    ·replace h := br_f hg5 h
     refine Qp (cgb hg5) ?_
     refine Zv _ rfl ?_
     refine Qe (Qc (sMv rfl rfl rfl ?_))
     refine sAs rfl rfl rfl ?_
     refine sAs rfl rfl rfl ?_
     refine Qd (tZ [4, 5] [0] [] rfl rfl rfl rfl ?_)
     obtain rfl := Option.some.inj h
     exact Qn rfl rfl (resA (vs := [v13, vI (0 : Int)]) rfl ⟨rfl, rfl, trivial⟩) [0] [] rfl rfl rfl ⟨v13, rfl, rfl, rfl⟩

set_option maxRecDepth 100000 in
set_option maxHeartbeats 4000000 in
theorem XB {rp0 : List UInt8} {atp1 : Int} {np2 : Int} {vp3 : UInt64} {b_rp0 : Nat} {r : (List UInt8)} (h : XD rp0 atp1 np2 vp3 = some r) :
  Ctr Try.prog 106 #[.pointer (some ⟨b_rp0, 0, none⟩), vI atp1, vI np2, vU64 vp3] [(Qm b_rp0 180 (rp0.map vU8))] []
   (fun rv own shr => rv = .tuple #[] ∧ own = [(Qm b_rp0 180 (r.map vU8))] ∧ shr = []) := by
 unfold XD at h
 refine Ctr.mk (args := [.pointer (some ⟨b_rp0, 0, none⟩), vI atp1, vI np2, vU64 vp3]) Try.func106 rfl rfl (fun R0 w0 B => ?_)
 refine Qe (Qc (sMv rfl rfl rfl ?_))
 refine sMv rfl rfl rfl ?_
 refine Qd (tZ [0, 1, 3, 9, 10] [0] [] rfl rfl rfl rfl ?_)
 refine QC (Zf (σ := (List UInt8) × Int) [0, 1, 3, 9, 10] [0] [] (fun s => ⟨[(0, some (.pointer (some ⟨b_rp0, 0, none⟩))), (1, some (vI atp1)), (3, some (vU64 vp3)), (9, some (vI np2)), (10, some (vI s.2))], [some (Qm b_rp0 180 (s.1.map vU8))], []⟩) (fun nf1 s => desc_raw_putL1 atp1 np2 vp3 nf1 s.1 s.2 = some r) fuel (rp0, (0 : Int)) h rfl rfl rfl rfl rfl (fun s h => by cases h) ?_)
 rintro nf1 ⟨m1, x1⟩ h
 replace h : desc_raw_putL1B atp1 np2 vp3 (desc_raw_putL1 atp1 np2 vp3 nf1) m1 x1 = some r := h
 unfold desc_raw_putL1B at h
 refine Qe (Qc (Qa rfl (Qf rfl rfl rfl rfl rfl (QI (a := x1) (b := np2))) ?_))
 refine Qd (Qe ?_)
 rcases bC (decide (x1 < np2)) with hg1 | hg1
 ·replace h := br_t hg1 h
  refine Ql (cgb hg1) ?_
  refine Qt (Qe (QC (Qe (Qc (sMv rfl rfl rfl ?_)))))
  refine sAs rfl rfl rfl ?_
  refine Qd (tZ [0, 1, 3, 9, 10, 8] [0] [] rfl rfl rfl rfl ?_)
  refine QU (by kernel_rfl) ?_
  refine Xn [0, 0, 0, 6, 0, 0, 32, 112, 240, 1, 1023, 2047] (by kernel_rfl) fun htb => ?_
  obtain ⟨hc1, h⟩ := ZK h
  refine QW (lo := 0) (hi := 10) htb rfl rfl (by kernel_rfl) (fun c L a w => Sat c ⟨[(0, some (.pointer (some ⟨b_rp0, 0, none⟩))), (1, some (vI atp1)), (3, some (vU64 vp3)), (9, some (vI np2)), (10, some (vI x1)), (8, some (vI x1)), (13, bif L 0 then some (.pointer (some ⟨b_rp0, 0, none⟩)) else none), (14, bif L 1 then some (vI atp1) else none), (15, bif L 2 then some (vI x1) else none), (16, bif L 3 then some (vI (wi (atp1 + x1))) else none), (17, bif L 4 then some (vU64 vp3) else none), (18, bif L 5 then some (vI x1) else none), (19, bif L 6 then some (vI (wi ((8 : Int) * x1))) else none), (20, bif L 7 then some (vU64 (Kb vp3 ((wi ((8 : Int) * x1)).toNat))) else none), (21, bif L 8 then some (vU8 ((Kb vp3 ((wi ((8 : Int) * x1)).toNat)).toUInt8)) else none), (22, bif L 9 then some (.pointer (some ⟨b_rp0, 0, none⟩)) else none)], [(some (Qm b_rp0 180 (m1.map vU8)) : Option Res)], []⟩ a w) [([], [9]), ([], [3]), ([], [3]), ([1, 2], []), ([], [7, 8]), ([], [6, 7, 8]), ([5], [7, 8]), ([4, 5, 6], [8]), ([4, 5, 6, 7], []), ([0], [])] rfl (by kernel_rfl) ?_ (Qb ?_ (Qb ?_ (Qb ?_ (Qb ?_ (Qb ?_ (Qb ?_ (Qb ?_ (Qb ?_ (Qb ?_ (Qb ?_ (QB))))))))))) ?_
  ·intro a w hs
   exact hs.startF [13, 14, 15, 16, 17, 18, 19, 20, 21, 22] [0] [] rfl rfl rfl rfl
  ·intro L a w hs K Q hK
   exact wGo rfl rfl hs (Qk rfl rfl rfl rfl) fun a w hs => hK a w (pF hs 6 [0] [] rfl)
  ·intro L a w hs K Q hK
   exact wGo rfl rfl hs (Qk rfl rfl rfl rfl) fun a w hs => hK a w (pF hs 7 [0] [] rfl)
  ·intro L a w hs K Q hK
   exact wGo rfl rfl hs (Qk rfl rfl rfl rfl) fun a w hs => hK a w (pF hs 8 [0] [] rfl)
  ·intro L a w hs K Q hK
   exact wGo rfl rfl hs (Qf rfl rfl rfl rfl rfl (QG (a := atp1) (b := x1))) fun a w hs => hK a w (pF hs 9 [0] [] rfl)
  ·intro L a w hs K Q hK
   exact wGo rfl rfl hs (Qk rfl rfl rfl rfl) fun a w hs => hK a w (pF hs 10 [0] [] rfl)
  ·intro L a w hs K Q hK
   exact wGo rfl rfl hs (Qk rfl rfl rfl rfl) fun a w hs => hK a w (pF hs 11 [0] [] rfl)
  ·intro L a w hs K Q hK
   exact wGo rfl rfl hs (Qf rfl rfl rfl rfl rfl (YE (a := (8 : Int)) (b := x1))) fun a w hs => hK a w (pF hs 12 [0] [] rfl)
  ·intro L a w hs K Q hK
   exact wGo rfl rfl hs (Qf rfl rfl rfl rfl rfl (bin_shr_u64_i64 (a := vp3) (n := wi ((8 : Int) * x1)) hc1)) fun a w hs => hK a w (pF hs 13 [0] [] rfl)
  ·intro L a w hs K Q hK
   exact wGo rfl rfl hs (QX rfl rfl rfl rfl (cnv_u64_u8 (n := Kb vp3 ((wi ((8 : Int) * x1)).toNat)) Try.underlying27 Try.underlying5)) fun a w hs => hK a w (pF hs 14 [0] [] rfl)
  ·intro L a w hs K Q hK
   exact wGo rfl rfl hs (Zt rfl rfl rfl rfl) fun a w hs => hK a w (pF hs 15 [0] [] rfl)
  ·intro L a w hL hv
   rw [QM hL] at hv
   have hs := hv
   refine gZ hs [0, 1, 3, 9, 10, 16, 21, 22] [0] [] rfl rfl rfl rfl ?_
   clear hs hL
   obtain ⟨hc2, h⟩ := ZK h
   refine Qx htb (by kernel_rfl) rfl rfl (Zp rfl rfl rfl rfl rfl arrF180 hc2) ?_
   obtain ⟨hc3, h⟩ := ZK h
   refine Qx htb (by kernel_rfl) rfl rfl (OpT_storeLA (f := vU8) (u := (Kb vp3 ((wi ((8 : Int) * x1)).toNat)).toUInt8) rfl rfl rfl rfl tyF5 (i := 0) rfl (fun _ => ⟨rfl, rfl⟩) hc3) ?_
   refine Zh rfl ?_
   refine tZ [0, 1, 3, 9, 10] [0] [] rfl rfl rfl rfl ?_
   refine Zx (Qc (Qa rfl (Qf rfl rfl rfl rfl rfl (QG (a := x1) (b := (1 : Int)))) ?_))
   refine sMv rfl rfl rfl ?_
   refine Qd (tZ [0, 1, 3, 9, 10] [0] [] rfl rfl rfl rfl ?_)
   exact QY (m1.set (wi (atp1 + x1)).toNat ((Kb vp3 ((wi ((8 : Int) * x1)).toNat)).toUInt8), wi (x1 + (1 : Int))) h [0, 1, 3, 9, 10] [0] [] rfl rfl rfl rfl rfl
 ·replace h := br_f hg1 h
  refine Qp (cgb hg1) ?_
  refine Zv _ rfl ?_
  obtain rfl := Option.some.inj h
  exact Tk_endV rfl rfl (resA (vs := []) rfl trivial) [0] [] rfl rfl rfl ⟨rfl, rfl, rfl⟩

set_option maxRecDepth 100000 in
set_option maxHeartbeats 4000000 in
theorem w_desc_Bytes {dp0 : Desc} {r : (List UInt8)} (h : desc_Bytes dp0 = some r) :
  Ctr Try.prog 105 #[.agg #[vU64 dp0.Addr, vU32 dp0.Len, vU16 dp0.Flags, vU16 dp0.Next]] [] []
   (fun rv own shr => ∃ (w1 : Value), rv = w1 ∧ own = [(rowS u8S w1 r)] ∧ shr = []) := by
 unfold desc_Bytes at h
 refine Ctr.mk (args := [.agg #[vU64 dp0.Addr, vU32 dp0.Len, vU16 dp0.Flags, vU16 dp0.Next]]) Try.func105 rfl rfl (fun R0 w0 B => ?_)
 refine Qe (Qc (Qu rfl (ZA rfl rfl rfl rfl) fun b1 => ?_))
 refine sAs rfl rfl rfl ?_
 refine Qd (tZ [1] [0] [] rfl rfl rfl rfl ?_)
 refine Qe (Qc (Qu rfl (QD rfl rfl rfl tyZ180) fun b2 => ?_))
 refine Qd (Qe (Qc (Qa rfl (Qi rfl rfl rfl rfl fldF36x0) ?_)))
 refine Qa rfl (Qj rfl rfl rfl rfl QZ (i := 0) rfl rfl) ?_
 obtain ⟨put1, hx1, h⟩ := ob_e h
 refine Qs rfl (QJ [0, 2] (XB hx1) [1] [] rfl rfl rfl rfl rfl callee106 rfl rfl rfl rfl rfl) ?_
 rintro _ ⟨_, _, _, ⟨rfl, rfl, rfl⟩, rfl⟩
 refine Qd (tZ [1, 3] [0, 1] [] rfl rfl rfl rfl ?_)
 refine Qe (Qc (Qa rfl (Qi rfl rfl rfl rfl fldF36x1) ?_))
 refine Qa rfl (Qj rfl rfl rfl rfl tyF33 (i := 0) rfl rfl) ?_
 refine Qa rfl (QX rfl rfl rfl rfl (XM (n := dp0.Len) Try.underlying33 Try.underlying27)) ?_
 obtain ⟨put2, hx2, h⟩ := ob_e h
 refine Qs rfl (QJ [0, 2] (XB hx2) [1] [] rfl rfl rfl rfl rfl callee106 rfl rfl rfl rfl rfl) ?_
 rintro _ ⟨_, _, _, ⟨rfl, rfl, rfl⟩, rfl⟩
 refine Qd (tZ [1, 3] [0, 1] [] rfl rfl rfl rfl ?_)
 refine Qe (Qc (Qa rfl (Qi rfl rfl rfl rfl Ki) ?_))
 refine Qa rfl (Qj rfl rfl rfl rfl YP (i := 0) rfl rfl) ?_
 refine Qa rfl (QX rfl rfl rfl rfl (YX (n := dp0.Flags) Try.underlying34 Try.underlying27)) ?_
 obtain ⟨put3, hx3, h⟩ := ob_e h
 refine Qs rfl (QJ [0, 2] (XB hx3) [1] [] rfl rfl rfl rfl rfl callee106 rfl rfl rfl rfl rfl) ?_
 rintro _ ⟨_, _, _, ⟨rfl, rfl, rfl⟩, rfl⟩
 refine Qd (tZ [1, 3] [0, 1] [] rfl rfl rfl rfl ?_)
 refine Qe (Qc (Qa rfl (Qi rfl rfl rfl rfl fldF36x3) ?_))
 refine Qa rfl (Qj rfl rfl rfl rfl YP (i := 0) rfl rfl) ?_
 refine Qa rfl (QX rfl rfl rfl rfl (YX (n := dp0.Next) Try.underlying34 Try.underlying27)) ?_
 obtain ⟨put4, hx4, h⟩ := ob_e h
 refine Qs rfl (QJ [0, 2] (XB hx4) [1] [] rfl rfl rfl rfl rfl callee106 rfl rfl rfl rfl rfl) ?_
 rintro _ ⟨_, _, _, ⟨rfl, rfl, rfl⟩, rfl⟩
 refine Qd (tZ [3] [1] [] rfl rfl rfl rfl ?_)
 refine Qe (Qc (Qa rfl (OpT_sliceArr rfl rfl rfl rfl arrF180) ?_))
 refine sAs rfl rfl rfl ?_
 refine Qd (tZ [2] [0] [] rfl rfl rfl rfl ?_)
 obtain ⟨hc1, h⟩ := ZK h
 refine Tk_rowD u8S rfl (i := 0) (xs := put4) rfl (flat_one _) (len_of hc1) rfl ?_
 obtain rfl := Option.some.inj h
 exact Qn rfl rfl (resA (vs := [.slice (some ⟨b2, 0, none⟩) 16 16]) rfl ⟨rfl, trivial⟩) [0] [] rfl rfl rfl ⟨(.slice (some ⟨b2, 0, none⟩) 16 16), rfl, rfl, rfl⟩

set_option maxRecDepth 100000 in
set_option maxHeartbeats 4000000 in
theorem w_desc_Table {l : List Desc} {vl1 : Value} {r : (List UInt8)} (h : desc_Table l = some r) :
  Ctr Try.prog 70 #[vl1] [] [Fact.sl DescS vl1 l]
   (fun rv own shr => ∃ (w1 : Value), rv = w1 ∧ own = [(rowS u8S w1 r)] ∧ shr = []) := by
 unfold desc_Table at h
 refine Ctr.mk (args := [vl1]) Try.func70 rfl rfl (fun R0 w0 B => ?_)
 refine Qe (Qc (sAs rfl rfl rfl ?_))
 refine Qd (Qe (Qe (Qc (sMv rfl rfl rfl ?_))))
 refine Qa rfl (QT rfl rfl rfl rfl Try.underlying141 (i := 0) rfl) ?_
 refine sMv rfl rfl rfl ?_
 refine Qd (tZ [2, 5, 6, 7] [] [0] rfl rfl rfl rfl ?_)
 refine QC (Zr u8S ?_)
 refine Zf (σ := (List UInt8) × Int × Value) [2, 5, 6, 7] [0] [0] (fun s => ⟨[(2, some (s.2.2)), (5, some vl1), (6, some (vI (len l))), (7, some (vI s.2.1))], [some (rowS u8S s.2.2 s.1)], [Fact.sl DescS vl1 l]⟩) (fun nf1 s => KP l nf1 s.1 s.2.1 = some r) fuel ([], (0 : Int), (.slice none 0 0)) h rfl rfl rfl rfl rfl (fun s h => by cases h) ?_
 rintro nf1 ⟨b1, x1, v1⟩ h
 replace h : desc_TableL1B l (KP l nf1) b1 x1 = some r := h
 unfold desc_TableL1B at h
 refine Qe (Qc (Qa rfl (Qf rfl rfl rfl rfl rfl (QI (a := x1) (b := len l))) ?_))
 refine Qd (Qe ?_)
 rcases bC (decide (x1 < (len l))) with hg1 | hg1
 ·replace h := br_t hg1 h
  refine Ql (cgb hg1) ?_
  refine Qt (Qe (QC (Qe (Qc ?_))))
  obtain ⟨d1, hx1, h⟩ := ob_e h
  refine Qu rfl (Zb rfl rfl rfl rfl rfl slF141 (i := 0) rfl hx1) fun p1 => ?_
  refine Qa rfl (Xs (vs := [vU64 d1.Addr, vU32 d1.Len, vU16 d1.Flags, vU16 d1.Next]) rfl rfl rfl rfl tyF36 (i := 1) rfl rfl) ?_
  refine Qu rfl (QD rfl rfl rfl tyZ36) fun b2 => ?_
  refine Qa rfl (Qo (cs' := [vU64 d1.Addr, vU32 d1.Len, vU16 d1.Flags, vU16 d1.Next]) rfl rfl rfl rfl tyF36 (i := 1) rfl rfl rfl (QF rfl) rfl) ?_
  refine Qd (tZ [2, 5, 6, 7, 4] [0, 1] [0] rfl rfl rfl rfl ?_)
  refine Qc (sMv rfl rfl rfl ?_)
  refine Qa rfl (Qy (vs := [vU64 d1.Addr, vU32 d1.Len, vU16 d1.Flags, vU16 d1.Next]) rfl rfl rfl rfl tyF36 (i := 1) rfl rfl rfl) ?_
  obtain ⟨bytes1, hx2, h⟩ := ob_e h
  refine Qs rfl (Qv (w_desc_Bytes hx2) [] [] rfl rfl rfl rfl rfl callee105 rfl rfl rfl rfl) ?_
  rintro _ ⟨v2, _, _, ⟨_, rfl, rfl, rfl⟩, rfl⟩
  obtain ⟨hc1, h⟩ := ZK h
  refine Qu rfl (Zw (S := u8S) rfl rfl rfl rfl rfl rfl slF39 (i := 0) (j := 2) rfl rfl hc1) fun v3 => ?_
  refine sAs rfl rfl rfl ?_
  refine Qd (tZ [2, 5, 6, 7] [0] [0] rfl rfl rfl rfl ?_)
  refine Zx (Qc (Qa rfl (Qf rfl rfl rfl rfl rfl (QG (a := x1) (b := (1 : Int)))) ?_))
  refine sMv rfl rfl rfl ?_
  refine Qd (tZ [2, 5, 6, 7] [0] [0] rfl rfl rfl rfl ?_)
  exact QY (b1 ++ bytes1, wi (x1 + (1 : Int)), v3) h [2, 5, 6, 7] [0] [0] rfl rfl rfl rfl rfl
 ·replace h := br_f hg1 h
  refine Qp (cgb hg1) ?_
  refine Zv _ rfl ?_
  refine Qe (Qc (sMv rfl rfl rfl ?_))
  refine sAs rfl rfl rfl ?_
  refine Qd (tZ [2] [0] [] rfl rfl rfl rfl ?_)
  obtain rfl := Option.some.inj h
  exact Qn rfl rfl (resA (vs := [v1]) rfl ⟨rfl, trivial⟩) [0] [] rfl rfl rfl ⟨v1, rfl, rfl, rfl⟩

set_option maxRecDepth 100000 in
set_option maxHeartbeats 4000000 in
theorem w_build_SplitTable_1 {ip0 : Int} {r : build_split} (h : Xq ip0 = some r) :
  Ctr Try.prog 69 #[vI ip0] [] []
   (fun rv own shr => rv = .agg #[vU64 r.Desc.Addr, vU32 r.Desc.Len, vU16 r.Desc.Flags, vU16 r.Desc.Next, vI r.next] ∧ own = [] ∧ shr = []) := by
 unfold Xq at h
 refine Ctr.mk (args := [vI ip0]) Try.func69 rfl rfl (fun R0 w0 B => ?_)
 refine Qe (Qc (Qu rfl (QD rfl rfl rfl tyZ139) fun b1 => ?_))
 refine Qd (Qe (Qc (sMv rfl rfl rfl ?_)))
 refine Qa rfl (Qf rfl rfl rfl rfl rfl (QG (a := ip0) (b := (1 : Int)))) ?_
 refine Qa rfl (QE (v := .agg #[vU64 (0 : UInt64), vU32 (0 : UInt32), vU16 (0 : UInt16), vU16 (0 : UInt16), vI (wi (ip0 + (1 : Int)))]) rfl rfl rfl rfl (bldV (by kernel_rfl))) ?_
 refine Qa rfl (Qo (cs' := [vU64 (0 : UInt64), vU32 (0 : UInt32), vU16 (0 : UInt16), vU16 (0 : UInt16), vI (wi (ip0 + (1 : Int)))]) rfl rfl rfl rfl tyF139 (i := 0) rfl rfl rfl (QF rfl) rfl) ?_
 refine Qd (tZ [2] [0] [] rfl rfl rfl rfl ?_)
 obtain rfl := Option.some.inj h
 exact Qn rfl rfl (resA (vs := [.agg #[vU64 (0 : UInt64), vU32 (0 : UInt32), vU16 (0 : UInt16), vU16 (0 : UInt16), vI (wi (ip0 + (1 : Int)))]]) rfl ⟨⟨_, 0, _, _, _, rfl, rfl, .inl ⟨tyF139, rfl, rfl⟩⟩, trivial⟩) [] [] rfl rfl rfl ⟨rfl, rfl, rfl⟩

set_option maxRecDepth 100000 in
set_option maxHeartbeats 4000000 in
theorem w_build_SplitTable {l : List Seg} {vl1 : Value} {r : ((List UInt8) × Int)} (h : YD l = some r) :
  Ctr Try.prog 29 #[vl1] [] [Fact.sl SegS vl1 l]
   (fun rv own shr => ∃ (w1 : Value), rv = .tuple #[w1, vI r.2] ∧ own = [(rowS u8S w1 r.1)] ∧ shr = []) := by
 unfold YD at h
 refine Ctr.mk (args := [vl1]) Try.func29 rfl rfl (fun R0 w0 B => ?_)
 refine Qe (Qc (sAs rfl rfl rfl ?_))
 refine sAs rfl rfl rfl ?_
 refine Qd (tZ [0] [] [0] rfl rfl rfl rfl ?_)
 refine Qe (Qe (Qc (sMv rfl rfl rfl ?_)))
 obtain ⟨buffer1, hx1, h⟩ := ob_e h
 refine Qs rfl (Qv (w_build_buffer hx1) [] [0] rfl rfl rfl rfl rfl callee64 rfl rfl rfl rfl) ?_
 rintro _ ⟨v1, _, _, ⟨_, rfl, rfl, rfl⟩, rfl⟩
 refine Qu rfl (ZS fnS132 (vs := [v1]) (xs := [buffer1]) rfl rfl rfl rfl rfl slF175 rfl rfl rfl (Xo (KL (i := 1) rfl) (KX rfl))) fun v2 => ?_
 obtain ⟨first1, hx2, h⟩ := ob_e h
 refine Qs rfl (Zu [0] [0] (ZE hx2) [] rfl rfl rfl rfl rfl YO rfl rfl rfl rfl rfl rfl (Zl (Xa 0 rfl rfl) ZZ) (by rintro _ _ _ ⟨rfl, rfl, rfl⟩; exact ⟨rfl, XS⟩)) ?_
 rintro _ ⟨_, _, _, ⟨rfl, rfl, rfl⟩, rfl⟩
 refine sAs rfl rfl rfl ?_
 refine Qd (tZ [0, 4] [] [0] rfl rfl rfl rfl ?_)
 refine Qe (Qc (sMv rfl rfl rfl ?_))
 refine Qa rfl (Qf rfl rfl rfl rfl rfl (QL (a := first1) (b := (0 : Int)))) ?_
 refine Qd (tZ [0, 4, 13] [] [0] rfl rfl rfl rfl ?_)
 rcases bC (first1 != (0 : Int)) with hg1 | hg1
 ·replace h := br_t hg1 h
  refine Ql (cgb hg1) ?_
  refine Qe (Qc (sMv rfl rfl rfl ?_))
  refine sAs rfl rfl rfl ?_
  refine sAs rfl rfl rfl ?_
  refine Qd (tZ [2, 3] [] [] rfl rfl rfl rfl ?_)
  refine Zr u8S ?_
  obtain rfl := Option.some.inj h
  exact Qn rfl rfl (resA (vs := [.slice none 0 0, vI first1]) rfl ⟨rfl, rfl, trivial⟩) [0] [] rfl rfl rfl ⟨(.slice none 0 0), rfl, rfl, rfl⟩
 ·replace h := br_f hg1 h
  refine Qp (cgb hg1) ?_
  refine Qt (Qe (Qc (sAs rfl rfl rfl ?_)))
  refine Qd (tZ [0, 5] [] [0] rfl rfl rfl rfl ?_)
  refine Qe (Qe (Qc (sMv rfl rfl rfl ?_)))
  refine Yb (vs_add (Fact.fn Try.prog (fun (x : Int) => [vI x]) (fun (x : build_split) => .agg #[vU64 x.Desc.Addr, vU32 x.Desc.Len, vU16 x.Desc.Flags, vU16 x.Desc.Next, vI x.next]) (.func (.func 69) #[] #[]) (fun x => Xq x)) (fun R hF => ⟨rfl, fun x r hx => ⟨69, [], [], rfl, callee69, fal_nil, w_build_SplitTable_1 hx⟩⟩)) ?_
  obtain ⟨split1, hx3, h⟩ := ob_e h
  refine Qs rfl (Qv (Yh hx3) [] [0, 1] rfl rfl rfl rfl rfl callee67 rfl rfl rfl rfl) ?_
  rintro _ ⟨v3, _, _, ⟨_, rfl, rfl, rfl⟩, rfl⟩
  refine Qa rfl (OpT_lenO rfl rfl rfl rfl Try.underlying136 (i := 0) rfl) ?_
  refine sMv rfl rfl rfl ?_
  refine Qd (tZ [5, 16, 17, 18] [0] [] rfl rfl rfl rfl ?_)
  refine QC (Zr DescS ?_)
  refine Zf (σ := (List Desc) × (List build_split) × Int × Value × Value) [5, 16, 17, 18] [1, 0] [] (fun s => ⟨[(5, some (s.2.2.2.1)), (16, some (s.2.2.2.2)), (17, some (vI (len split1))), (18, some (vI s.2.2.1))], [some (rowS DescS s.2.2.2.1 s.1), some (rowS ZC s.2.2.2.2 s.2.1)], []⟩) (fun nf1 s => Xr split1 nf1 s.1 s.2.1 s.2.2.1 = some r) fuel ([], split1, (0 : Int), (.slice none 0 0), v3) h rfl rfl rfl rfl rfl (fun s h => by cases h) ?_
  rintro nf1 ⟨out1, l1, x1, v4, v5⟩ h
  replace h : YA split1 (Xr split1 nf1) out1 l1 x1 = some r := h
  unfold YA at h
  refine Qe (Qc (Qa rfl (Qf rfl rfl rfl rfl rfl (QI (a := x1) (b := len split1))) ?_))
  refine Qd (Qe ?_)
  rcases bC (decide (x1 < (len split1))) with hg2 | hg2
  ·replace h := br_t hg2 h
   refine Ql (cgb hg2) ?_
   refine Qt (Qe (QC (Qe (Qc ?_))))
   obtain ⟨b1, hx4, h⟩ := ob_e h
   refine Qa rfl (ZR rfl rfl rfl rfl rfl slF136 (i := 1) rfl hx4) ?_
   refine Qa rfl (OpT_loadOA (S := ZC) (vs := [vU64 b1.Desc.Addr, vU32 b1.Desc.Len, vU16 b1.Desc.Flags, vU16 b1.Desc.Next, vI b1.next]) rfl rfl rfl rfl rfl tyF139 (i := 1) rfl hx4 rfl) ?_
   refine Qu rfl (QD rfl rfl rfl tyZ139) fun b2 => ?_
   refine Qa rfl (Qo (cs' := [vU64 b1.Desc.Addr, vU32 b1.Desc.Len, vU16 b1.Desc.Flags, vU16 b1.Desc.Next, vI b1.next]) rfl rfl rfl rfl tyF139 (i := 2) rfl rfl rfl (QF rfl) rfl) ?_
   refine Qd (tZ [5, 16, 17, 18, 7] [0, 1, 2] [] rfl rfl rfl rfl ?_)
   refine Qc (sMv rfl rfl rfl ?_)
   refine Qa rfl (Qi rfl rfl rfl rfl Jh) ?_
   refine Qa rfl (Qy (vs := [vU64 b1.Desc.Addr, vU32 b1.Desc.Len, vU16 b1.Desc.Flags, vU16 b1.Desc.Next]) rfl rfl rfl rfl tyF36 (i := 2) rfl rfl rfl) ?_
   refine Qu rfl (QK (S := DescS) (xs := [b1.Desc]) (css := [[vU64 b1.Desc.Addr, vU32 b1.Desc.Len, vU16 b1.Desc.Flags, vU16 b1.Desc.Next]]) (cs := [vU64 b1.Desc.Addr, vU32 b1.Desc.Len, vU16 b1.Desc.Flags, vU16 b1.Desc.Next]) (e := 36) rfl rfl rfl rfl (bldF slF141 (by decide) (by kernel_rfl)) rfl rfl rfl rfl (Zd (S := DescS) (xs := [b1.Desc]) (css := [[vU64 b1.Desc.Addr, vU32 b1.Desc.Len, vU16 b1.Desc.Flags, vU16 b1.Desc.Next]]) rfl rfl)) fun v6 => ?_
   obtain ⟨hc1, h⟩ := ZK h
   refine Qu rfl (Zw (S := DescS) rfl rfl rfl rfl rfl rfl slF141 (i := 0) (j := 3) rfl rfl hc1) fun v7 => ?_
   refine sAs rfl rfl rfl ?_
   refine Qd (tZ [5, 16, 17, 18] [0, 1] [] rfl rfl rfl rfl ?_)
   refine Zx (Qc (Qa rfl (Qf rfl rfl rfl rfl rfl (QG (a := x1) (b := (1 : Int)))) ?_))
   refine sMv rfl rfl rfl ?_
   refine Qd (tZ [5, 16, 17, 18] [0, 1] [] rfl rfl rfl rfl ?_)
   exact QY (out1 ++ [b1.Desc], l1, wi (x1 + (1 : Int)), v7, v5) h [5, 16, 17, 18] [0, 1] [] rfl rfl rfl rfl rfl
  ·replace h := br_f hg2 h
   refine Qp (cgb hg2) ?_
   refine Zv _ rfl ?_
   refine Qe (Qc (sMv rfl rfl rfl ?_))
   obtain ⟨table1, hx5, h⟩ := ob_e h
   refine Qs rfl (Zu [0] [0, 1, 2] (w_desc_Table hx5) [] rfl rfl rfl rfl rfl callee70 rfl rfl rfl rfl rfl rfl (Zl (Xa 0 rfl rfl) ZZ) (by rintro _ _ _ ⟨_, rfl, rfl, rfl⟩; exact ⟨rfl, (YU (ri_row (S := u8S) rfl _ _) XS)⟩)) ?_
   rintro _ ⟨v8, _, _, ⟨_, rfl, rfl, rfl⟩, rfl⟩
   refine sAs rfl rfl rfl ?_
   refine sAs rfl rfl rfl ?_
   refine Qd (tZ [2, 3] [2] [] rfl rfl rfl rfl ?_)
   obtain rfl := Option.some.inj h
   exact Qn rfl rfl (resA (vs := [v8, vI (0 : Int)]) rfl ⟨rfl, rfl, trivial⟩) [0] [] rfl rfl rfl ⟨v8, rfl, rfl, rfl⟩

set_option maxRecDepth 100000 in
set_option maxHeartbeats 4000000 in
theorem w_desc_Mark {flags : UInt16} {wrap : Bool} {used : Bool} {r : UInt16} (h : Kw flags wrap used = some r) :
  Ctr Try.prog 77 #[vU16 flags, vB wrap, vB used] [] []
   (fun rv own shr => rv = vU16 r ∧ own = [] ∧ shr = []) := by
 unfold Kw at h
 refine Ctr.mk (args := [vU16 flags, vB wrap, vB used]) Try.func77 rfl rfl (fun R0 w0 B => ?_)
 refine Qe (Qc (sAs rfl rfl rfl ?_))
 refine Qd (tZ [0, 1, 2] [] [] rfl rfl rfl rfl ?_)
 refine Qe (Qc (sMv rfl rfl rfl ?_))
 refine Qa rfl (Qf rfl rfl rfl rfl rfl (bin_andNot_u16 (a := flags) (b := (32896 : UInt16)))) ?_
 refine sAs rfl rfl rfl ?_
 refine Qd (tZ [0, 1, 2] [] [] rfl rfl rfl rfl ?_)
 refine Qe (Qe (Qc (sMv rfl rfl rfl ?_)))
 refine Qd (Tk_join (α := UInt16) (fun s => ⟨[(0, some (vU16 s)), (1, some (vB wrap)), (2, some (vB used))], [], []⟩) (fun s => desc_MarkJ1 wrap used s = some r) ?_ ?_)
 ·rintro flags1 h
  replace h : desc_MarkJ1 wrap used flags1 = some r := h
  unfold desc_MarkJ1 at h
  refine Qe (Qe (Qc (sMv rfl rfl rfl ?_)))
  refine sMv rfl rfl rfl ?_
  refine Qa rfl (Qf rfl rfl rfl rfl rfl (bin_eql_b (a := wrap) (b := used) Try.underlying4)) ?_
  refine Qd (tZ [0, 14] [] [] rfl rfl rfl rfl ?_)
  rcases bC (wrap == used) with hg1 | hg1
  ·replace h := br_t hg1 h
   refine Ql (cgb hg1) ?_
   refine Qc (sMv rfl rfl rfl ?_)
   refine Qa rfl (Qf rfl rfl rfl rfl rfl (bin_or_u16 (a := flags1) (b := (32768 : UInt16)))) ?_
   refine sAs rfl rfl rfl ?_
   refine Qd (tZ [0] [] [] rfl rfl rfl rfl ?_)
   refine Qe (Qc (sMv rfl rfl rfl ?_))
   refine sAs rfl rfl rfl ?_
   refine Qd (tZ [6] [] [] rfl rfl rfl rfl ?_)
   obtain rfl := Option.some.inj h
   exact Qn rfl rfl (resA (vs := [vU16 (flags1 ||| (32768 : UInt16))]) rfl ⟨rfl, trivial⟩) [] [] rfl rfl rfl ⟨rfl, rfl, rfl⟩
  ·replace h := br_f hg1 h
   refine Qp (cgb hg1) ?_
   refine Qt (Qe (Qc (sMv rfl rfl rfl ?_)))
   refine sAs rfl rfl rfl ?_
   refine Qd (tZ [6] [] [] rfl rfl rfl rfl ?_)
   obtain rfl := Option.some.inj h
   exact Qn rfl rfl (resA (vs := [vU16 flags1]) rfl ⟨rfl, trivial⟩) [] [] rfl rfl rfl ⟨rfl, rfl, rfl⟩
 ·intro HJ1
  rcases bC (wrap) with hg2 | hg2
  ·replace h := br_t hg2 h
   refine Ql (cgb hg2) ?_
   refine Qc (sMv rfl rfl rfl ?_)
   refine Qa rfl (Qf rfl rfl rfl rfl rfl (bin_or_u16 (a := flags &&& ~~~(32896 : UInt16)) (b := (128 : UInt16)))) ?_
   refine sAs rfl rfl rfl ?_
   refine Qd (tZ [0, 1, 2] [] [] rfl rfl rfl rfl ?_)
   exact XA (HJ1 ((flags &&& ~~~(32896 : UInt16)) ||| (128 : UInt16)) h) [0, 1, 2] [] [] rfl rfl rfl rfl
  ·replace h := br_f hg2 h
   refine Qp (cgb hg2) ?_
   refine Qt ?_
   exact XA (HJ1 (flags &&& ~~~(32896 : UInt16)) h) [0, 1, 2] [] [] rfl rfl rfl rfl

set_option maxRecDepth 100000 in
set_option maxHeartbeats 4000000 in
theorem w_build_packed_made {dp0 : build_packed} {sp1 : Seg} {more : Bool} {r : build_packed} (h : Yj dp0 sp1 more = some r) :
  Ctr Try.prog 135 #[.agg #[vU64 dp0.Packed.Addr, vU32 dp0.Packed.Len, vU16 dp0.Packed.ID, vU16 dp0.Packed.Flags, vI dp0.id, vB dp0.wrap], .agg #[vU64 sp1.At, vU32 sp1.Len, vB sp1.Write], vB more] [] []
   (fun rv own shr => rv = .iface 148 (.agg #[vU64 r.Packed.Addr, vU32 r.Packed.Len, vU16 r.Packed.ID, vU16 r.Packed.Flags, vI r.id, vB r.wrap]) ∧ own = [] ∧ shr = []) := by
 unfold Yj at h
 refine Ctr.mk (args := [.agg #[vU64 dp0.Packed.Addr, vU32 dp0.Packed.Len, vU16 dp0.Packed.ID, vU16 dp0.Packed.Flags, vI dp0.id, vB dp0.wrap], .agg #[vU64 sp1.At, vU32 sp1.Len, vB sp1.Write], vB more]) Try.func135 rfl rfl (fun R0 w0 B => ?_)
 refine Qe (Qc (Qu rfl (ZA rfl rfl rfl rfl) fun b1 => ?_))
 refine Qu rfl (ZA rfl rfl rfl rfl) fun b2 => ?_
 refine sAs rfl rfl rfl ?_
 refine Qd (tZ [2, 3, 4] [0, 1] [] rfl rfl rfl rfl ?_)
 refine Qe (Qc (Qa rfl (Qi rfl rfl rfl rfl fldF46x0) ?_))
 refine Qa rfl (Qj rfl rfl rfl rfl QZ (i := 1) rfl rfl) ?_
 refine Qa rfl (Qi rfl rfl rfl rfl fldF46x1) ?_
 refine Qa rfl (Qj rfl rfl rfl rfl tyF33 (i := 1) rfl rfl) ?_
 refine Qa rfl (Qi rfl rfl rfl rfl fldF148x1) ?_
 refine Qa rfl (Qj rfl rfl rfl rfl tyF3 (i := 0) rfl rfl) ?_
 refine Qa rfl (QX rfl rfl rfl rfl (cnv_i_u16 (n := dp0.id) Try.underlying3 Try.underlying34)) ?_
 refine Qa rfl (QE (v := .agg #[vU64 sp1.At, vU32 sp1.Len, vU16 (u16 dp0.id), vU16 (0 : UInt16)]) rfl rfl rfl rfl (bldV (by kernel_rfl))) ?_
 refine Qa rfl (Qi rfl rfl rfl rfl YW) ?_
 refine Qa rfl (Qo (cs' := [vU64 sp1.At, vU32 sp1.Len, vU16 (u16 dp0.id), vU16 (0 : UInt16), vI dp0.id, vB dp0.wrap]) rfl rfl rfl rfl tyF87 (i := 0) rfl rfl rfl (QF rfl) rfl) ?_
 refine Qd (tZ [2, 3, 4] [0, 1] [] rfl rfl rfl rfl ?_)
 refine Qe (Qe (Qc (Qa rfl (Qi rfl rfl rfl rfl fldF46x2) ?_)))
 refine Qa rfl (Qj rfl rfl rfl rfl tyF4 (i := 1) rfl rfl) ?_
 refine Qd (tZ [2, 3, 17] [0] [] rfl rfl rfl rfl ?_)
 refine Tk_join (α := build_packed) (fun s => ⟨[(2, some (vB more)), (3, some (.pointer (some ⟨b1, 0, none⟩)))], [some (Qm b1 148 [vU64 s.Packed.Addr, vU32 s.Packed.Len, vU16 s.Packed.ID, vU16 s.Packed.Flags, vI s.id, vB s.wrap])], []⟩) (fun s => Xe more s = some r) ?_ ?_
 ·rintro m1 h
  replace h : Xe more m1 = some r := h
  unfold Xe at h
  refine Qe (Qe (Qc (sMv rfl rfl rfl ?_)))
  refine Qd (tZ [3, 24] [0] [] rfl rfl rfl rfl ?_)
  refine Tk_join (α := build_packed) (fun s => ⟨[(3, some (.pointer (some ⟨b1, 0, none⟩)))], [some (Qm b1 148 [vU64 s.Packed.Addr, vU32 s.Packed.Len, vU16 s.Packed.ID, vU16 s.Packed.Flags, vI s.id, vB s.wrap])], []⟩) (fun s => Xd s = some r) ?_ ?_
  ·rintro m2 h
   replace h : Xd m2 = some r := h
   unfold Xd at h
   refine Qe (Qc (Qa rfl (Qi rfl rfl rfl rfl YW) ?_))
   refine Qa rfl (Qi rfl rfl rfl rfl Yx) ?_
   refine Qa rfl (Qj rfl rfl rfl rfl YP (i := 0) rfl rfl) ?_
   refine Qa rfl (Qi rfl rfl rfl rfl fldF148x2) ?_
   refine Qa rfl (Qj rfl rfl rfl rfl tyF4 (i := 0) rfl rfl) ?_
   obtain ⟨mark1, hx1, h⟩ := ob_e h
   refine Qs rfl (Qv (w_desc_Mark hx1) [] [] rfl rfl rfl rfl rfl callee77 rfl rfl rfl rfl) ?_
   rintro _ ⟨_, _, _, ⟨rfl, rfl, rfl⟩, rfl⟩
   refine Qa rfl (Qi rfl rfl rfl rfl YW) ?_
   refine Qa rfl (Qi rfl rfl rfl rfl Yx) ?_
   refine Qa rfl (Qo (cs' := [vU64 m2.Packed.Addr, vU32 m2.Packed.Len, vU16 m2.Packed.ID, vU16 mark1, vI m2.id, vB m2.wrap]) rfl rfl rfl rfl YP (i := 0) rfl rfl rfl (QF rfl) rfl) ?_
   refine Qd (tZ [3] [0] [] rfl rfl rfl rfl ?_)
   refine Qe (Qc (Qa rfl (Qy (vs := [vU64 m2.Packed.Addr, vU32 m2.Packed.Len, vU16 m2.Packed.ID, vU16 mark1, vI m2.id, vB m2.wrap]) rfl rfl rfl rfl tyF148 (i := 0) rfl rfl rfl) ?_))
   refine Qa rfl (OpT_mkIf rfl rfl rfl rfl mkif148) ?_
   refine sAs rfl rfl rfl ?_
   refine Qd (tZ [6] [] [] rfl rfl rfl rfl ?_)
   obtain rfl := Option.some.inj h
   exact Qn rfl rfl (resA (vs := [.iface 148 (.agg #[vU64 m2.Packed.Addr, vU32 m2.Packed.Len, vU16 m2.Packed.ID, vU16 mark1, vI m2.id, vB m2.wrap])]) rfl ⟨rfl, trivial⟩) [] [] rfl rfl rfl ⟨rfl, rfl, rfl⟩
  ·intro HJ1
   rcases bC (more) with hg1 | hg1
   ·replace h := br_t hg1 h
    refine Ql (cgb hg1) ?_
    refine Qc (Qa rfl (Qi rfl rfl rfl rfl YW) ?_)
    refine Qa rfl (Qi rfl rfl rfl rfl Yx) ?_
    refine Qa rfl (Qj rfl rfl rfl rfl YP (i := 0) rfl rfl) ?_
    refine Qa rfl (Qf rfl rfl rfl rfl rfl (bin_or_u16 (a := m1.Packed.Flags) (b := (1 : UInt16)))) ?_
    refine Qa rfl (Qi rfl rfl rfl rfl YW) ?_
    refine Qa rfl (Qi rfl rfl rfl rfl Yx) ?_
    refine Qa rfl (Qo (cs' := [vU64 m1.Packed.Addr, vU32 m1.Packed.Len, vU16 m1.Packed.ID, vU16 (m1.Packed.Flags ||| (1 : UInt16)), vI m1.id, vB m1.wrap]) rfl rfl rfl rfl YP (i := 0) rfl rfl rfl (QF rfl) rfl) ?_
    refine Qd (tZ [3] [0] [] rfl rfl rfl rfl ?_)
    exact XA (HJ1 (build_packed.mk (Packed.mk m1.Packed.Addr m1.Packed.Len m1.Packed.ID (m1.Packed.Flags ||| (1 : UInt16))) m1.id m1.wrap) h) [3] [0] [] rfl rfl rfl rfl
   ·replace h := br_f hg1 h
    refine Qp (cgb hg1) ?_
    refine Qt ?_
    exact XA (HJ1 m1 h) [3] [0] [] rfl rfl rfl rfl
 ·intro HJ2
  rcases bC (sp1.Write) with hg2 | hg2
  ·replace h := br_t hg2 h
   refine Ql (cgb hg2) ?_
   refine Qc (Qa rfl (Qi rfl rfl rfl rfl YW) ?_)
   refine Qa rfl (Qi rfl rfl rfl rfl Yx) ?_
   refine Qa rfl (Qj rfl rfl rfl rfl YP (i := 0) rfl rfl) ?_
   refine Qa rfl (Qf rfl rfl rfl rfl rfl (bin_or_u16 (a := (0 : UInt16)) (b := (2 : UInt16)))) ?_
   refine Qa rfl (Qi rfl rfl rfl rfl YW) ?_
   refine Qa rfl (Qi rfl rfl rfl rfl Yx) ?_
   refine Qa rfl (Qo (cs' := [vU64 sp1.At, vU32 sp1.Len, vU16 (u16 dp0.id), vU16 ((0 : UInt16) ||| (2 : UInt16)), vI dp0.id, vB dp0.wrap]) rfl rfl rfl rfl YP (i := 0) rfl rfl rfl (QF rfl) rfl) ?_
   refine Qd (tZ [2, 3] [0] [] rfl rfl rfl rfl ?_)
   exact XA (HJ2 (build_packed.mk (Packed.mk sp1.At sp1.Len (u16 dp0.id) ((0 : UInt16) ||| (2 : UInt16))) dp0.id dp0.wrap) h) [2, 3] [0] [] rfl rfl rfl rfl
  ·replace h := br_f hg2 h
   refine Qp (cgb hg2) ?_
   refine Qt ?_
   exact XA (HJ2 (build_packed.mk (Packed.mk sp1.At sp1.Len (u16 dp0.id) (0 : UInt16)) dp0.id dp0.wrap) h) [2, 3] [0] [] rfl rfl rfl rfl

set_option maxRecDepth 100000 in
set_option maxHeartbeats 4000000 in
theorem Xh {l : List Seg} {of : Int → Option build_packed} {vl1 : Value} {vof1 : Value} {r : (List build_packed)} (h : Zi l of = some r) :
  Ctr Try.prog 74 #[vl1, vof1] [] [Fact.sl SegS vl1 l, Fact.fn Try.prog (fun (x : Int) => [vI x]) (fun (x : build_packed) => .agg #[vU64 x.Packed.Addr, vU32 x.Packed.Len, vU16 x.Packed.ID, vU16 x.Packed.Flags, vI x.id, vB x.wrap]) vof1 of]
   (fun rv own shr => ∃ (w1 : Value), rv = w1 ∧ own = [(rowS Ze w1 r)] ∧ shr = []) := by
 unfold Zi at h
 refine Ctr.mk (args := [vl1, vof1]) Try.func74 rfl rfl (fun R0 w0 B => ?_)
 refine Qe (Qc (sAs rfl rfl rfl ?_))
 refine Qd (tZ [0, 1] [] [0, 1] rfl rfl rfl rfl ?_)
 refine Qe (Qc (sMv rfl rfl rfl ?_))
 refine Qa rfl (QT rfl rfl rfl rfl Try.underlying41 (i := 0) rfl) ?_
 obtain ⟨hc1, h⟩ := ZK h
 refine Qu rfl (OpT_makeD Ze rfl (u := (build_packed.mk (Packed.mk (0 : UInt64) (0 : UInt32) (0 : UInt16) (0 : UInt16)) (0 : Int) false)) rfl rfl rfl rfl rfl slF145 rfl hc1) fun v1 => ?_
 refine sAs rfl rfl rfl ?_
 refine Qd (tZ [0, 1, 5] [0] [0, 1] rfl rfl rfl rfl ?_)
 refine Qe (Qe (Qc (sMv rfl rfl rfl ?_)))
 refine Qa rfl (QT rfl rfl rfl rfl Try.underlying41 (i := 0) rfl) ?_
 refine sMv rfl rfl rfl ?_
 refine Qd (QC (Zf (σ := (List build_packed) × Int × Value) [0, 1, 5, 11, 12, 13] [0] [0, 1] (fun s => ⟨[(0, some vl1), (1, some vof1), (5, some (s.2.2)), (11, some vl1), (12, some (vI (len l))), (13, some (vI s.2.1))], [some (rowS Ze s.2.2 s.1)], [Fact.sl SegS vl1 l, Fact.fn Try.prog (fun (x : Int) => [vI x]) (fun (x : build_packed) => .agg #[vU64 x.Packed.Addr, vU32 x.Packed.Len, vU16 x.Packed.ID, vU16 x.Packed.Flags, vI x.id, vB x.wrap]) vof1 of]⟩) (fun nf1 s => ZB l of nf1 s.1 s.2.1 = some r) fuel (List.replicate (0 : Int).toNat (build_packed.mk (Packed.mk (0 : UInt64) (0 : UInt32) (0 : UInt16) (0 : UInt16)) (0 : Int) false), (0 : Int), v1) h rfl rfl rfl rfl rfl (fun s h => by cases h) ?_))
 rintro nf1 ⟨out1, x1, v2⟩ h
 replace h : Xb l of (ZB l of nf1) out1 x1 = some r := h
 unfold Xb at h
 refine Qe (Qc (Qa rfl (Qf rfl rfl rfl rfl rfl (QI (a := x1) (b := len l))) ?_))
 refine Qd (Qe ?_)
 rcases bC (decide (x1 < (len l))) with hg1 | hg1
 ·replace h := br_t hg1 h
  refine Ql (cgb hg1) ?_
  refine Qt (Qe (QC (Qe (Qc (sMv rfl rfl rfl ?_)))))
  obtain ⟨s1, hx1, h⟩ := ob_e h
  refine Qu rfl (Zb rfl rfl rfl rfl rfl slF41 (i := 0) rfl hx1) fun p1 => ?_
  refine Qa rfl (Xs (vs := [vU64 s1.At, vU32 s1.Len, vB s1.Write]) rfl rfl rfl rfl tyF46 (i := 2) rfl rfl) ?_
  refine Qu rfl (QD rfl rfl rfl tyZ46) fun b1 => ?_
  refine sAs rfl rfl rfl ?_
  refine Qa rfl (Qo (cs' := [vU64 s1.At, vU32 s1.Len, vB s1.Write]) rfl rfl rfl rfl tyF46 (i := 1) rfl rfl rfl (QF rfl) rfl) ?_
  refine Qd (tZ [0, 1, 5, 11, 12, 13, 7, 6] [0, 1] [0, 1] rfl rfl rfl rfl ?_)
  refine QU (by kernel_rfl) ?_
  refine Xn [0, 0, 0, 6, 14, 0, 0, 64, 0, 256, 960, 2046, 4094, 8190, 16383, 32767] (by kernel_rfl) fun htb => ?_
  obtain ⟨y1, hx2, h⟩ := ob_e h
  obtain ⟨made1, hx3, h⟩ := ob_e h
  refine QW (lo := 0) (hi := 14) htb rfl rfl (by kernel_rfl) (fun c L a w => ∃ (v3 : Value), Sat c ⟨[(0, some vl1), (1, some vof1), (5, some v2), (11, some vl1), (12, some (vI (len l))), (13, some (vI x1)), (7, some (.pointer (some ⟨b1, 0, none⟩))), (6, some (vI x1)), (18, bif L 0 then some (v2) else none), (19, bif L 1 then some (vof1) else none), (20, bif L 2 then some (vI x1) else none), (21, bif L 3 then some (.agg #[vU64 y1.Packed.Addr, vU32 y1.Packed.Len, vU16 y1.Packed.ID, vU16 y1.Packed.Flags, vI y1.id, vB y1.wrap]) else none), (22, bif L 4 then some (.iface 148 (.agg #[vU64 y1.Packed.Addr, vU32 y1.Packed.Len, vU16 y1.Packed.ID, vU16 y1.Packed.Flags, vI y1.id, vB y1.wrap])) else none), (23, bif L 5 then some (.agg #[vU64 s1.At, vU32 s1.Len, vB s1.Write]) else none), (24, bif L 6 then some (vI x1) else none), (25, bif L 7 then some (vI (wi (x1 + (1 : Int)))) else none), (26, bif L 8 then some (vl1) else none), (27, bif L 9 then some (vI (len l)) else none), (28, bif L 10 then some (vB (decide ((wi (x1 + (1 : Int))) < (len l)))) else none), (29, bif L 11 then some (.iface 148 (.agg #[vU64 made1.Packed.Addr, vU32 made1.Packed.Len, vU16 made1.Packed.ID, vU16 made1.Packed.Flags, vI made1.id, vB made1.wrap])) else none), (30, bif L 12 then some (.agg #[vU64 made1.Packed.Addr, vU32 made1.Packed.Len, vU16 made1.Packed.ID, vU16 made1.Packed.Flags, vI made1.id, vB made1.wrap]) else none), (31, bif L 13 then some (v3) else none)], [(some (rowS Ze v2 out1) : Option Res), (some (Qm b1 46 [vU64 s1.At, vU32 s1.Len, vB s1.Write]) : Option Res), (bif L 13 then some (rowS Ze v3 [made1]) else none : Option Res)], [Fact.sl SegS vl1 l, Fact.fn Try.prog (fun (x : Int) => [vI x]) (fun (x : build_packed) => .agg #[vU64 x.Packed.Addr, vU32 x.Packed.Len, vU16 x.Packed.ID, vU16 x.Packed.Flags, vI x.id, vB x.wrap]) vof1 of]⟩ a w) [([], []), ([], [3, 4, 11, 12, 13]), ([], [3, 4, 11, 12, 13]), ([1, 2], [4, 11, 12, 13]), ([1, 2, 3], [11, 12, 13]), ([], [11, 12, 13]), ([], [7, 10, 11, 12, 13]), ([6], [10, 11, 12, 13]), ([], [9, 10, 11, 12, 13]), ([8], [10, 11, 12, 13]), ([6, 7, 8, 9], [11, 12, 13]), ([1, 2, 3, 4, 5, 6, 7, 8, 9, 10], [12, 13]), ([1, 2, 3, 4, 5, 6, 7, 8, 9, 10, 11], [13]), ([1, 2, 3, 4, 5, 6, 7, 8, 9, 10, 11, 12], [])] rfl (by kernel_rfl) ?_ (Qb ?_ (Qb ?_ (Qb ?_ (Qb ?_ (Qb ?_ (Qb ?_ (Qb ?_ (Qb ?_ (Qb ?_ (Qb ?_ (Qb ?_ (Qb ?_ (Qb ?_ (Qb ?_ (QB))))))))))))))) ?_
  ·intro a w hs
   exact ⟨undef, hs.startF [18, 19, 20, 21, 22, 23, 24, 25, 26, 27, 28, 29, 30, 31] [0, 1, 2] [0, 1] rfl rfl rfl rfl⟩
  ·intro L a w hv K Q hK
   obtain ⟨v3, hs⟩ := hv
   exact wGo rfl rfl hs (Qk rfl rfl rfl rfl) fun a w hs => hK a w ⟨v3, pF hs 8 [0, 1, 2] [0, 1] rfl⟩
  ·intro L a w hv K Q hK
   obtain ⟨v3, hs⟩ := hv
   exact wGo rfl rfl hs (Qk rfl rfl rfl rfl) fun a w hs => hK a w ⟨v3, pF hs 9 [0, 1, 2] [0, 1] rfl⟩
  ·intro L a w hv K Q hK
   obtain ⟨v3, hs⟩ := hv
   exact wGo rfl rfl hs (Qk rfl rfl rfl rfl) fun a w hs => hK a w ⟨v3, pF hs 10 [0, 1, 2] [0, 1] rfl⟩
  ·intro L a w hv K Q hK
   obtain ⟨v3, hs⟩ := hv
   exact wGo rfl rfl hs (OpT_callF (u := .agg #[vU64 y1.Packed.Addr, vU32 y1.Packed.Len, vU16 y1.Packed.ID, vU16 y1.Packed.Flags, vI y1.id, vB y1.wrap]) x1 rfl rfl rfl rfl (i := 1) rfl rfl rfl hx2 rfl) fun a w hs => hK a w ⟨v3, pF hs 11 [0, 1, 2] [0, 1] rfl⟩
  ·intro L a w hv K Q hK
   obtain ⟨v3, hs⟩ := hv
   exact wGo rfl rfl hs (OpT_mkIf rfl rfl rfl rfl mkif148) fun a w hs => hK a w ⟨v3, pF hs 12 [0, 1, 2] [0, 1] rfl⟩
  ·intro L a w hv K Q hK
   obtain ⟨v3, hs⟩ := hv
   exact wGo rfl rfl hs (Qy (vs := [vU64 s1.At, vU32 s1.Len, vB s1.Write]) rfl rfl rfl rfl tyF46 (i := 1) rfl rfl rfl) fun a w hs => hK a w ⟨v3, pF hs 13 [0, 1, 2] [0, 1] rfl⟩
  ·intro L a w hv K Q hK
   obtain ⟨v3, hs⟩ := hv
   exact wGo rfl rfl hs (Qk rfl rfl rfl rfl) fun a w hs => hK a w ⟨v3, pF hs 14 [0, 1, 2] [0, 1] rfl⟩
  ·intro L a w hv K Q hK
   obtain ⟨v3, hs⟩ := hv
   exact wGo rfl rfl hs (Qf rfl rfl rfl rfl rfl (QG (a := x1) (b := (1 : Int)))) fun a w hs => hK a w ⟨v3, pF hs 15 [0, 1, 2] [0, 1] rfl⟩
  ·intro L a w hv K Q hK
   obtain ⟨v3, hs⟩ := hv
   exact wGo rfl rfl hs (Qk rfl rfl rfl rfl) fun a w hs => hK a w ⟨v3, pF hs 16 [0, 1, 2] [0, 1] rfl⟩
  ·intro L a w hv K Q hK
   obtain ⟨v3, hs⟩ := hv
   exact wGo rfl rfl hs (QT rfl rfl rfl rfl Try.underlying41 (i := 0) rfl) fun a w hs => hK a w ⟨v3, pF hs 17 [0, 1, 2] [0, 1] rfl⟩
  ·intro L a w hv K Q hK
   obtain ⟨v3, hs⟩ := hv
   exact wGo rfl rfl hs (Qf rfl rfl rfl rfl rfl (QI (a := wi (x1 + (1 : Int))) (b := len l))) fun a w hs => hK a w ⟨v3, pF hs 18 [0, 1, 2] [0, 1] rfl⟩
  ·intro L a w hv K Q hK
   obtain ⟨v3, hs⟩ := hv
   refine QO rfl rfl hs (OpT_invoke (w_build_packed_made hx3) [] [] rfl rfl rfl rfl rfl ⟨meth148x135, callee135⟩ rfl rfl rfl rfl) ?_
   rintro _ ⟨_, _, _, ⟨rfl, rfl, rfl⟩, rfl⟩ a' w' hs'
   exact hK a' w' ⟨v3, hs'.putF (i := 19) rfl [0, 1, 2] [0, 1] rfl rfl rfl rfl⟩
  ·intro L a w hv K Q hK
   obtain ⟨v3, hs⟩ := hv
   exact wGo rfl rfl hs (OpT_asrt rfl rfl rfl rfl asrt177x148) fun a w hs => hK a w ⟨v3, pF hs 20 [0, 1, 2] [0, 1] rfl⟩
  ·intro L a w hv K Q hK
   obtain ⟨v3, hs⟩ := hv
   refine QO rfl rfl hs (QK (S := Ze) (xs := [made1]) (css := [[vU64 made1.Packed.Addr, vU32 made1.Packed.Len, vU16 made1.Packed.ID, vU16 made1.Packed.Flags, vI made1.id, vB made1.wrap]]) (cs := [vU64 made1.Packed.Addr, vU32 made1.Packed.Len, vU16 made1.Packed.ID, vU16 made1.Packed.Flags, vI made1.id, vB made1.wrap]) (e := 148) rfl rfl rfl rfl (bldF slF145 (by decide) (by kernel_rfl)) rfl rfl rfl rfl (Zd (S := Ze) (xs := [made1]) (css := [[vU64 made1.Packed.Addr, vU32 made1.Packed.Len, vU16 made1.Packed.ID, vU16 made1.Packed.Flags, vI made1.id, vB made1.wrap]]) rfl rfl)) ?_
   rintro _ ⟨v3', rfl⟩ a' w' hs'
   exact hK a' w' ⟨v3', hs'.putF (i := 21) rfl [0, 1, 3] [0, 1] rfl rfl rfl rfl⟩
  ·intro L a w hL hv
   rw [QM hL] at hv
   obtain ⟨v3, hs⟩ := hv
   refine gZ hs [0, 1, 11, 12, 13, 18, 31] [0, 2] [0, 1] rfl rfl rfl rfl ?_
   clear hs hL
   obtain ⟨hc2, h⟩ := ZK h
   refine TA_ex htb (by kernel_rfl) rfl rfl (Zw (S := Ze) rfl rfl rfl rfl rfl rfl slF145 (i := 0) (j := 1) rfl rfl hc2) fun v4 => ?_
   refine Qx htb (by kernel_rfl) rfl rfl (QN rfl rfl rfl rfl) ?_
   refine Zh rfl ?_
   refine tZ [0, 1, 11, 12, 13, 5] [0] [0, 1] rfl rfl rfl rfl ?_
   refine Zx (Qc (Qa rfl (Qf rfl rfl rfl rfl rfl (QG (a := x1) (b := (1 : Int)))) ?_))
   refine sMv rfl rfl rfl ?_
   refine Qd (tZ [0, 1, 11, 12, 13, 5] [0] [0, 1] rfl rfl rfl rfl ?_)
   exact QY (out1 ++ [made1], wi (x1 + (1 : Int)), v4) h [0, 1, 5, 11, 12, 13] [0] [0, 1] rfl rfl rfl rfl rfl
 ·replace h := br_f hg1 h
  refine Qp (cgb hg1) ?_
  refine Zv _ rfl ?_
  refine Qe (Qc (sMv rfl rfl rfl ?_))
  refine sAs rfl rfl rfl ?_
  refine Qd (tZ [4] [0] [] rfl rfl rfl rfl ?_)
  obtain rfl := Option.some.inj h
  exact Qn rfl rfl (resA (vs := [v2]) rfl ⟨rfl, trivial⟩) [0] [] rfl rfl rfl ⟨v2, rfl, rfl, rfl⟩

set_option maxRecDepth 100000 in
set_option maxHeartbeats 4000000 in
theorem KA {ip0 : Int} {arg1 : Int} {arg2 : List Pos} {parg11 : Value} {parg21 : Value} {r : build_packed} (h : ZM ip0 arg1 arg2 = some r) :
  Ctr Try.prog 75 #[vI ip0, parg11, parg21] [] [Fact.pt iS parg11 arg1, Fact.pt (Shape.slice PosS) parg21 arg2]
   (fun rv own shr => rv = .agg #[vU64 r.Packed.Addr, vU32 r.Packed.Len, vU16 r.Packed.ID, vU16 r.Packed.Flags, vI r.id, vB r.wrap] ∧ own = [] ∧ shr = []) := by
 unfold ZM at h
 refine Ctr.mk (args := [vI ip0, parg11, parg21]) Try.func75 rfl rfl (fun R0 w0 B => ?_)
 refine Qe (Qc (Qu rfl (QD rfl rfl rfl tyZ148) fun b1 => ?_))
 refine Qd (tZ [0, 1, 2, 4] [0] [0, 1] rfl rfl rfl rfl ?_)
 refine Qe (QU (by kernel_rfl) ?_)
 refine Xn [0, 0, 0, 6, 14, 30, 63, 127] (by kernel_rfl) fun htb => ?_
 obtain ⟨p1, hx1, h⟩ := ob_e h
 refine QW (lo := 0) (hi := 6) htb rfl rfl (by kernel_rfl) (fun c L a w => ∃ (v1 : Value), ∃ (p2 : Value), ∃ (p3 : Value), Sat c ⟨[(0, some (vI ip0)), (1, some parg11), (2, some parg21), (4, some (.pointer (some ⟨b1, 0, none⟩))), (5, bif L 0 then some (vI arg1) else none), (6, bif L 1 then some (v1) else none), (7, bif L 2 then some (vI ip0) else none), (8, bif L 3 then some (p2) else none), (9, bif L 4 then some (p3) else none), (10, bif L 5 then some (vB p1.Wrap) else none)], [(some (Qm b1 148 [vU64 (0 : UInt64), vU32 (0 : UInt32), vU16 (0 : UInt16), vU16 (0 : UInt16), vI (0 : Int), vB false]) : Option Res)], [Fact.pt iS parg11 arg1, Fact.pt (Shape.slice PosS) parg21 arg2, (bif L 1 then Fact.sl PosS v1 arg2 else Fact.tt), (bif L 3 then Fact.pt PosS p2 p1 else Fact.tt), (bif L 4 then Fact.pt bS p3 p1.Wrap else Fact.tt)]⟩ a w) [([], []), ([], [3, 4, 5]), ([], [3, 4, 5]), ([1, 2], [4, 5]), ([1, 2, 3], [5]), ([1, 2, 3, 4], [])] rfl (by kernel_rfl) ?_ (Qb ?_ (Qb ?_ (Qb ?_ (Qb ?_ (Qb ?_ (Qb ?_ (QB))))))) ?_
 ·intro a w hs
  exact ⟨undef, undef, undef, hs.startF [5, 6, 7, 8, 9, 10] [0] [0, 1, 2, 3, 4] rfl rfl rfl rfl⟩
 ·intro L a w hv K Q hK
  obtain ⟨v1, p2, p3, hs⟩ := hv
  exact wGo rfl rfl hs (Zj rfl rfl rfl rfl tyF3 (i := 0) rfl rfl) fun a w hs => hK a w ⟨v1, p2, p3, pF hs 4 [0] [0, 1, 2, 3, 4] rfl⟩
 ·intro L a w hv K Q hK
  obtain ⟨v1, p2, p3, hs⟩ := hv
  refine QO rfl rfl hs (Yn rfl rfl rfl rfl tyF144 (i := 1) rfl) ?_
  rintro _ ⟨v1', rfl⟩ a' w' hs'
  exact hK a' w' ⟨v1', p2, p3, hs'.putF (i := 5) rfl [0] [0, 1, 5, 3, 4] rfl rfl rfl rfl⟩
 ·intro L a w hv K Q hK
  obtain ⟨v1, p2, p3, hs⟩ := hv
  exact wGo rfl rfl hs (Qk rfl rfl rfl rfl) fun a w hs => hK a w ⟨v1, p2, p3, pF hs 6 [0] [0, 1, 2, 3, 4] rfl⟩
 ·intro L a w hv K Q hK
  obtain ⟨v1, p2, p3, hs⟩ := hv
  refine QO rfl rfl hs (Zb rfl rfl rfl rfl rfl slF144 (i := 2) rfl hx1) ?_
  rintro _ ⟨p2', rfl⟩ a' w' hs'
  exact hK a' w' ⟨v1, p2', p3, hs'.putF (i := 7) rfl [0] [0, 1, 2, 5, 4] rfl rfl rfl rfl⟩
 ·intro L a w hv K Q hK
  obtain ⟨v1, p2, p3, hs⟩ := hv
  refine QO rfl rfl hs (Zg (S' := bS) (y := p1.Wrap) rfl rfl rfl rfl fldF60x1 (i := 3) rfl (by intro h cs hr; subst hr; rfl)) ?_
  rintro _ ⟨p3', rfl⟩ a' w' hs'
  exact hK a' w' ⟨v1, p2, p3', hs'.putF (i := 8) rfl [0] [0, 1, 2, 3, 5] rfl rfl rfl rfl⟩
 ·intro L a w hv K Q hK
  obtain ⟨v1, p2, p3, hs⟩ := hv
  exact wGo rfl rfl hs (Zj rfl rfl rfl rfl tyF4 (i := 4) rfl rfl) fun a w hs => hK a w ⟨v1, p2, p3, pF hs 9 [0] [0, 1, 2, 3, 4] rfl⟩
 ·intro L a w hL hv
  rw [QM hL] at hv
  obtain ⟨v1, p2, p3, hs⟩ := hv
  refine gZ hs [4, 5, 10] [0] [] rfl rfl rfl rfl ?_
  clear hs hL
  refine Qx htb (by kernel_rfl) rfl rfl (QE (v := .agg #[vU64 (0 : UInt64), vU32 (0 : UInt32), vU16 (0 : UInt16), vU16 (0 : UInt16), vI arg1, vB p1.Wrap]) rfl rfl rfl rfl (bldV (by kernel_rfl))) ?_
  refine Qx htb (by kernel_rfl) rfl rfl (Qo (cs' := [vU64 (0 : UInt64), vU32 (0 : UInt32), vU16 (0 : UInt16), vU16 (0 : UInt16), vI arg1, vB p1.Wrap]) rfl rfl rfl rfl tyF148 (i := 0) rfl rfl rfl (QF rfl) rfl) ?_
  refine Zh rfl ?_
  refine tZ [4] [0] [] rfl rfl rfl rfl ?_
  obtain rfl := Option.some.inj h
  exact Qn rfl rfl (resA (vs := [.agg #[vU64 (0 : UInt64), vU32 (0 : UInt32), vU16 (0 : UInt16), vU16 (0 : UInt16), vI arg1, vB p1.Wrap]]) rfl ⟨⟨_, 0, _, _, _, rfl, rfl, .inl ⟨tyF148, rfl, rfl⟩⟩, trivial⟩) [] [] rfl rfl rfl ⟨rfl, rfl, rfl⟩

set_option maxRecDepth 100000 in
set_option maxHeartbeats 4000000 in
theorem w_build_Packed {pp0 : Pos} {size : Int} {id : Int} {l : List Seg} {vl1 : Value} {r : ((List PutPacked) × Int)} (h : build_Packed pp0 size id l = some r) :
  Ctr Try.prog 31 #[.agg #[vI pp0.At, vB pp0.Wrap], vI size, vI id, vl1] [] [Fact.sl SegS vl1 l]
   (fun rv own shr => ∃ (w1 : Value), rv = .tuple #[w1, vI r.2] ∧ own = [(rowS QS w1 r.1)] ∧ shr = []) := by
 unfold build_Packed at h
 refine Ctr.mk (args := [.agg #[vI pp0.At, vB pp0.Wrap], vI size, vI id, vl1]) Try.func31 rfl rfl (fun R0 w0 B => ?_)
 refine Qe (Qc (Qu rfl (ZA rfl rfl rfl rfl) fun b1 => ?_))
 refine Qu rfl (ZA rfl rfl rfl rfl) fun b2 => ?_
 refine sAs rfl rfl rfl ?_
 refine sAs rfl rfl rfl ?_
 refine Qd (tZ [1, 3, 4, 6] [0, 1] [0] rfl rfl rfl rfl ?_)
 refine Qe (Qe (QU (by kernel_rfl) ?_))
 refine Xn [0, 1, 0, 0, 15, 31, 63, 127, 255, 511, 1023, 2047, 2047, 8191, 16383, 32767, 65535, 131071, 65535, 524287, 1048575, 2097151, 4194303, 8388607, 16777215] (by kernel_rfl) fun htb => ?_
 obtain ⟨buffer1, hx1, h⟩ := ob_e h
 refine QW (lo := 0) (hi := 4) htb rfl rfl (by kernel_rfl) (fun c L a w => ∃ (v1 : Value), Sat c ⟨[(1, some (vI size)), (3, some vl1), (4, some (.pointer (some ⟨b1, 0, none⟩))), (6, some (.pointer (some ⟨b2, 0, none⟩))), (15, bif L 0 then some (vl1) else none), (16, bif L 1 then some (v1) else none), (17, bif L 2 then some (.agg #[vI pp0.At, vB pp0.Wrap]) else none), (18, bif L 3 then some (vI size) else none)], [(some (Qm b1 60 [vI pp0.At, vB pp0.Wrap]) : Option Res), (some (Qm b2 3 [vI id]) : Option Res)], [Fact.sl SegS vl1 l, (bif L 1 then Fact.fn Try.prog av0 vI v1 (fun _ => buffer1) else Fact.tt)]⟩ a w) [([], [1]), ([0], []), ([], []), ([], [])] rfl (by kernel_rfl) ?_ (Qb ?_ (Qb ?_ (Qb ?_ (Qb ?_ (QB))))) ?_
 ·intro a w hs
  exact ⟨undef, hs.startF [15, 16, 17, 18] [0, 1] [0, 1] rfl rfl rfl rfl⟩
 ·intro L a w hv K Q hK
  obtain ⟨v1, hs⟩ := hv
  exact wGo rfl rfl hs (Qk rfl rfl rfl rfl) fun a w hs => hK a w ⟨v1, pF hs 4 [0, 1] [0, 1] rfl⟩
 ·intro L a w hv K Q hK
  obtain ⟨v1, hs⟩ := hv
  refine QO rfl rfl hs (Qv (w_build_buffer hx1) [] [0] rfl rfl rfl rfl rfl callee64 rfl rfl rfl rfl) ?_
  rintro _ ⟨v1', _, _, ⟨_, rfl, rfl, rfl⟩, rfl⟩ a' w' hs'
  exact hK a' w' ⟨v1', hs'.putF (i := 5) rfl [0, 1] [0, 2] rfl rfl rfl rfl⟩
 ·intro L a w hv K Q hK
  obtain ⟨v1, hs⟩ := hv
  exact wGo rfl rfl hs (Qy (vs := [vI pp0.At, vB pp0.Wrap]) rfl rfl rfl rfl YK (i := 0) rfl rfl rfl) fun a w hs => hK a w ⟨v1, pF hs 6 [0, 1] [0, 1] rfl⟩
 ·intro L a w hv K Q hK
  obtain ⟨v1, hs⟩ := hv
  exact wGo rfl rfl hs (Qk rfl rfl rfl rfl) fun a w hs => hK a w ⟨v1, pF hs 7 [0, 1] [0, 1] rfl⟩
 ·intro L a w hL hv
  rw [QM hL] at hv
  obtain ⟨v1, hs⟩ := hv
  refine gZ hs [1, 3, 4, 6, 16, 17, 18] [0, 1] [0, 1] rfl rfl rfl rfl ?_
  clear hs hL
  obtain ⟨check1, hx2, h⟩ := ob_e h
  refine Ka htb (by kernel_rfl) rfl rfl (Qv (w_serial_Check hx2) [] [] rfl rfl rfl rfl rfl callee48 rfl rfl rfl rfl) ?_
  rintro _ ⟨_, _, _, ⟨rfl, rfl, rfl⟩, rfl⟩
  refine Qx htb (by kernel_rfl) rfl rfl (Qf rfl rfl rfl rfl rfl (QL (a := check1) (b := (0 : Int)))) ?_
  refine Qx htb (by kernel_rfl) rfl rfl (Qk rfl rfl rfl rfl) ?_
  rcases bC (check1 != (0 : Int)) with hg1 | hg1
  ·replace h := br_t hg1 h
   refine KR htb (by kernel_rfl) rfl rfl rfl (cgb hg1) rfl rfl ?_
   refine KR htb (by kernel_rfl) rfl rfl rfl (cgb hg1) rfl rfl ?_
   refine Qx htb (by kernel_rfl) rfl rfl (Qr rfl rfl rfl (cgb hg1) rfl) ?_
   refine Qx htb (by kernel_rfl) rfl rfl (Qk rfl rfl rfl rfl) ?_
   refine aZ [1, 3, 4, 6, 16, 25] [0, 1] [0, 1] rfl rfl rfl rfl ?_
   refine QW (lo := 11) (hi := 13) htb rfl rfl (by kernel_rfl) (fun c L a w => Sat c ⟨[(1, some (vI size)), (3, some vl1), (4, some (.pointer (some ⟨b1, 0, none⟩))), (6, some (.pointer (some ⟨b2, 0, none⟩))), (16, some v1), (25, some (vB true)), (26, bif L 11 then some (undef) else none), (27, bif L 12 then some (undef) else none)], [(some (Qm b1 60 [vI pp0.At, vB pp0.Wrap]) : Option Res), (some (Qm b2 3 [vI id]) : Option Res)], [Fact.sl SegS vl1 l, Fact.fn Try.prog av0 vI v1 (fun _ => buffer1)]⟩ a w) [([], []), ([], [])] rfl (by kernel_rfl) ?_ (Qb ?_ (Qb ?_ (QB))) ?_
   ·intro a w hs
    exact hs.startF [26, 27] [0, 1] [0, 1] rfl rfl rfl rfl
   ·intro L a w hs K Q hK
    exact QA rfl rfl rfl hs rfl rfl rfl fun a w hs => hK a w (pF hs 6 [0, 1] [0, 1] rfl)
   ·intro L a w hs K Q hK
    exact QA rfl rfl rfl hs rfl rfl rfl fun a w hs => hK a w (pF hs 7 [0, 1] [0, 1] rfl)
   ·intro L a w hL hv
    rw [QM hL] at hv
    have hs := hv
    refine gZ hs [1, 3, 4, 6, 16, 25, 26, 27] [0, 1] [0, 1] rfl rfl rfl rfl ?_
    clear hs hL
    refine KR htb (by kernel_rfl) rfl rfl rfl rfl rfl rfl ?_
    refine Qx htb (by kernel_rfl) rfl rfl (Qr rfl rfl rfl rfl rfl) ?_
    refine Qx htb (by kernel_rfl) rfl rfl (Qk rfl rfl rfl rfl) ?_
    refine aZ [1, 3, 4, 6, 16, 30] [0, 1] [0, 1] rfl rfl rfl rfl ?_
    refine QW (lo := 16) (hi := 19) htb rfl rfl (by kernel_rfl) (fun c L a w => Sat c ⟨[(1, some (vI size)), (3, some vl1), (4, some (.pointer (some ⟨b1, 0, none⟩))), (6, some (.pointer (some ⟨b2, 0, none⟩))), (16, some v1), (30, some (vB true)), (31, bif L 16 then some (undef) else none), (32, bif L 17 then some (undef) else none), (33, bif L 18 then some (undef) else none)], [(some (Qm b1 60 [vI pp0.At, vB pp0.Wrap]) : Option Res), (some (Qm b2 3 [vI id]) : Option Res)], [Fact.sl SegS vl1 l, Fact.fn Try.prog av0 vI v1 (fun _ => buffer1)]⟩ a w) [([], [17]), ([16], []), ([], [])] rfl (by kernel_rfl) ?_ (Qb ?_ (Qb ?_ (Qb ?_ (QB)))) ?_
    ·intro a w hs
     exact hs.startF [31, 32, 33] [0, 1] [0, 1] rfl rfl rfl rfl
    ·intro L a w hs K Q hK
     exact QA rfl rfl rfl hs rfl rfl rfl fun a w hs => hK a w (pF hs 6 [0, 1] [0, 1] rfl)
    ·intro L a w hs K Q hK
     exact QA rfl rfl rfl hs rfl rfl rfl fun a w hs => hK a w (pF hs 7 [0, 1] [0, 1] rfl)
    ·intro L a w hs K Q hK
     exact QA rfl rfl rfl hs rfl rfl rfl fun a w hs => hK a w (pF hs 8 [0, 1] [0, 1] rfl)
    ·intro L a w hL hv
     rw [QM hL] at hv
     have hs := hv
     refine gZ hs [1, 3, 4, 6, 16, 30, 32, 33] [0, 1] [0, 1] rfl rfl rfl rfl ?_
     clear hs hL
     refine KR htb (by kernel_rfl) rfl rfl rfl rfl rfl rfl ?_
     refine Qx htb (by kernel_rfl) rfl rfl (Qr rfl rfl rfl rfl rfl) ?_
     obtain ⟨wrong1, hx3, h⟩ := ob_e h
     refine Ka htb (by kernel_rfl) rfl rfl (Qv (ZN hx3) [] [] rfl rfl rfl rfl rfl Kj rfl rfl rfl rfl) ?_
     rintro _ ⟨v2, _, _, ⟨_, rfl, rfl, rfl⟩, rfl⟩
     refine TA_ex htb (by kernel_rfl) rfl rfl (ZS fnS132 (vs := [v1, v2]) (xs := [buffer1, wrong1]) rfl rfl rfl rfl rfl slF175 rfl rfl rfl (Xo (KL (i := 1) rfl) (Xo (KL (i := 2) rfl) (KX rfl)))) fun v3 => ?_
     obtain ⟨first1, hx4, h⟩ := ob_e h
     refine Ka htb (by kernel_rfl) rfl rfl (Zu [2] [0, 1, 2] (ZE hx4) [] rfl rfl rfl rfl rfl YO rfl rfl rfl rfl rfl rfl (Zl (Xa 2 rfl rfl) ZZ) (by rintro _ _ _ ⟨rfl, rfl, rfl⟩; exact ⟨rfl, XS⟩)) ?_
     rintro _ ⟨_, _, _, ⟨rfl, rfl, rfl⟩, rfl⟩
     refine aZ [1, 3, 4, 6, 38] [0, 1] [0] rfl rfl rfl rfl ?_
     refine Qx htb (by kernel_rfl) rfl rfl (QN rfl rfl rfl rfl) ?_
     refine Zh rfl ?_
     refine tZ [1, 3, 4, 6, 10] [0, 1] [0] rfl rfl rfl rfl ?_
     refine Qe (Qc (sMv rfl rfl rfl ?_))
     refine Qa rfl (Qf rfl rfl rfl rfl rfl (QL (a := first1) (b := (0 : Int)))) ?_
     refine Qd (tZ [1, 3, 4, 6, 10, 40] [0, 1] [0] rfl rfl rfl rfl ?_)
     rcases bC (first1 != (0 : Int)) with hg2 | hg2
     ·replace h := br_t hg2 h
      refine Ql (cgb hg2) ?_
      refine Qe (Qc (sMv rfl rfl rfl ?_))
      refine sAs rfl rfl rfl ?_
      refine sAs rfl rfl rfl ?_
      refine Qd (tZ [8, 9] [] [] rfl rfl rfl rfl ?_)
      refine Zr QS ?_
      obtain rfl := Option.some.inj h
      exact Qn rfl rfl (resA (vs := [.slice none 0 0, vI first1]) rfl ⟨rfl, rfl, trivial⟩) [0] [] rfl rfl rfl ⟨(.slice none 0 0), rfl, rfl, rfl⟩
     ·replace h := br_f hg2 h
      refine Qp (cgb hg2) ?_
      refine Qt (Qe (Qc (Qu rfl (QD rfl rfl rfl tyZ144) fun b3 => ?_)))
      refine Qd (tZ [1, 3, 4, 6, 11] [0, 1, 2] [0] rfl rfl rfl rfl ?_)
      refine Qe (Qe (Qc (sMv rfl rfl rfl ?_)))
      refine Qa rfl (QT rfl rfl rfl rfl Try.underlying41 (i := 0) rfl) ?_
      refine sMv rfl rfl rfl ?_
      refine Qd (tZ [1, 3, 4, 6, 11, 43, 44] [0, 1, 2] [0] rfl rfl rfl rfl ?_)
      refine QC (Zr PosS ?_)
      refine Zf (σ := Pos × Int × (List Pos) × Int × Value) [1, 3, 4, 6, 11, 43, 44] [0, 1, 2, 3] [0] (fun s => ⟨[(1, some (vI size)), (3, some vl1), (4, some (.pointer (some ⟨b1, 0, none⟩))), (6, some (.pointer (some ⟨b2, 0, none⟩))), (11, some (.pointer (some ⟨b3, 0, none⟩))), (43, some (vI (len l))), (44, some (vI s.2.2.2.1))], [some (Qm b1 60 [vI s.1.At, vB s.1.Wrap]), some (Qm b2 3 [vI s.2.1]), some (Qm b3 144 [s.2.2.2.2]), some (rowS PosS s.2.2.2.2 s.2.2.1)], [Fact.sl SegS vl1 l]⟩) (fun nf1 s => build_PackedL1 size l nf1 s.1 s.2.1 s.2.2.1 s.2.2.2.1 = some r) fuel (pp0, id, ([] : List Pos), (0 : Int), .slice none 0 0) h rfl rfl rfl rfl rfl (fun s h => by cases h) ?_
      rintro nf1 ⟨m1, m2, m3, x1, v4⟩ h
      replace h : build_PackedL1B size l (build_PackedL1 size l nf1) m1 m2 m3 x1 = some r := h
      unfold build_PackedL1B at h
      refine Qe (Qc (Qa rfl (Qf rfl rfl rfl rfl rfl (QI (a := x1) (b := len l))) ?_))
      refine Qd (Qe ?_)
      rcases bC (decide (x1 < (len l))) with hg3 | hg3
      ·replace h := br_t hg3 h
       refine Ql (cgb hg3) ?_
       refine Qt (Qe (QC (Qe (Qc (Qa rfl (Qj rfl rfl rfl rfl tyF144 (i := 2) rfl rfl) ?_)))))
       refine Qa rfl (Qy (vs := [vI m1.At, vB m1.Wrap]) rfl rfl rfl rfl YK (i := 0) rfl rfl rfl) ?_
       refine Qu rfl (QK (S := PosS) (xs := [m1]) (css := [[vI m1.At, vB m1.Wrap]]) (cs := [vI m1.At, vB m1.Wrap]) (e := 60) rfl rfl rfl rfl (bldF slF144 (by decide) (by kernel_rfl)) rfl rfl rfl rfl (Zd (S := PosS) (xs := [m1]) (css := [[vI m1.At, vB m1.Wrap]]) rfl rfl)) fun v5 => ?_
       obtain ⟨hc1, h⟩ := ZK h
       refine Qu rfl (Zw (S := PosS) rfl rfl rfl rfl rfl rfl slF144 (i := 3) (j := 4) rfl rfl hc1) fun v6 => ?_
       refine Qa rfl (Ym (cs' := [v6]) rfl rfl rfl rfl tyF144 (i := 2) rfl (Jf (i := 3) rfl) rfl rfl) ?_
       refine Qd (tZ [1, 3, 4, 6, 11, 43, 44] [0, 1, 2, 3] [0] rfl rfl rfl rfl ?_)
       refine Qc (Qa rfl (Qy (vs := [vI m1.At, vB m1.Wrap]) rfl rfl rfl rfl YK (i := 0) rfl rfl rfl) ?_)
       refine sMv rfl rfl rfl ?_
       obtain ⟨go1, hx5, h⟩ := ob_e h
       refine Qs rfl (Qv (w_serial_Go hx5) [] [] rfl rfl rfl rfl rfl callee73 rfl rfl rfl rfl) ?_
       rintro _ ⟨_, _, _, ⟨rfl, rfl, rfl⟩, rfl⟩
       refine sMv rfl rfl rfl ?_
       refine Qa rfl (Qq rfl rfl rfl rfl rfl) ?_
       refine Qa rfl (Qq rfl rfl rfl rfl rfl) ?_
       refine Qa rfl (Qo (cs' := [vI go1.1.At, vB go1.1.Wrap]) rfl rfl rfl rfl YK (i := 0) rfl rfl rfl (QF rfl) rfl) ?_
       refine Qd (tZ [1, 3, 4, 6, 11, 43, 44] [0, 1, 2, 3] [0] rfl rfl rfl rfl ?_)
       refine Zx (Qc (Qa rfl (Qf rfl rfl rfl rfl rfl (QG (a := x1) (b := (1 : Int)))) ?_))
       refine sMv rfl rfl rfl ?_
       refine Qd (tZ [1, 3, 4, 6, 11, 43, 44] [0, 1, 2, 3] [0] rfl rfl rfl rfl ?_)
       exact QY (go1.1, m2, m3 ++ [m1], wi (x1 + (1 : Int)), v6) h [1, 3, 4, 6, 11, 43, 44] [0, 1, 2, 3] [0] rfl rfl rfl rfl rfl
      ·replace h := br_f hg3 h
       refine Qp (cgb hg3) ?_
       refine Zv _ rfl ?_
       refine Qe (Qc (sAs rfl rfl rfl ?_))
       refine Qd (tZ [3, 6, 11, 12] [1, 2, 3] [0] rfl rfl rfl rfl ?_)
       refine Qe (Qe (Qc (sMv rfl rfl rfl ?_)))
       refine Qa rfl (Xm (vs := [.pointer (some ⟨b2, 0, none⟩), .pointer (some ⟨b3, 0, none⟩)]) rfl rfl rfl rfl) ?_
       refine Yb (XP iS (x := m2) (i := 0) rfl (fun _ _ => rfl)) ?_
       refine YZ (i := 2) rfl ?_
       refine Yb (XP (Shape.slice PosS) (x := m3) (i := 1) rfl (rel_sl (i := 2) rfl)) ?_
       refine Yb (vs_add (Fact.fn Try.prog (fun (x : Int) => [vI x]) (fun (x : build_packed) => .agg #[vU64 x.Packed.Addr, vU32 x.Packed.Len, vU16 x.Packed.ID, vU16 x.Packed.Flags, vI x.id, vB x.wrap]) (.func (.func 75) #[] #[(.pointer (some ⟨b2, 0, none⟩)), (.pointer (some ⟨b3, 0, none⟩))]) (fun x => ZM x m2 m3)) (fun R hF => ⟨rfl, fun x r hx => ⟨75, [(.pointer (some ⟨b2, 0, none⟩)), (.pointer (some ⟨b3, 0, none⟩))], [Fact.pt iS (.pointer (some ⟨b2, 0, none⟩)) m2, Fact.pt (Shape.slice PosS) (.pointer (some ⟨b3, 0, none⟩)) m3], rfl, callee75, (KD (mem_at (i := 1) rfl hF) (KD (mem_at (i := 3) rfl hF) fal_nil)), KA hx⟩⟩)) ?_
       obtain ⟨packed1, hx6, h⟩ := ob_e h
       refine Qs rfl (Qv (Xh hx6) [] [0, 4] rfl rfl rfl rfl rfl callee74 rfl rfl rfl rfl) ?_
       rintro _ ⟨v7, _, _, ⟨_, rfl, rfl, rfl⟩, rfl⟩
       refine Qa rfl (OpT_lenO rfl rfl rfl rfl Try.underlying145 (i := 3) rfl) ?_
       refine sMv rfl rfl rfl ?_
       refine Qd (tZ [11, 12, 59, 60, 61] [3] [3] rfl rfl rfl rfl ?_)
       refine QC (Zr QS ?_)
       refine Zf (σ := (List PutPacked) × (List build_packed) × Int × Value × Value) [11, 12, 59, 60, 61] [1, 0] [0] (fun s => ⟨[(11, some (.pointer (some ⟨b3, 0, none⟩))), (12, some (s.2.2.2.1)), (59, some (s.2.2.2.2)), (60, some (vI (len packed1))), (61, some (vI s.2.2.1))], [some (rowS QS s.2.2.2.1 s.1), some (rowS Ze s.2.2.2.2 s.2.1)], [Fact.pt (Shape.slice PosS) (.pointer (some ⟨b3, 0, none⟩)) m3]⟩) (fun nf2 s => build_PackedL2 m3 packed1 nf2 s.1 s.2.1 s.2.2.1 = some r) fuel ([], packed1, (0 : Int), (.slice none 0 0), v7) h rfl rfl rfl rfl rfl (fun s h => by cases h) ?_
       rintro nf2 ⟨out1, l1, x2, v8, v9⟩ h
       replace h : build_PackedL2B m3 packed1 (build_PackedL2 m3 packed1 nf2) out1 l1 x2 = some r := h
       unfold build_PackedL2B at h
       refine Qe (Qc (Qa rfl (Qf rfl rfl rfl rfl rfl (QI (a := x2) (b := len packed1))) ?_))
       refine Qd (Qe ?_)
       rcases bC (decide (x2 < (len packed1))) with hg4 | hg4
       ·replace h := br_t hg4 h
        refine Ql (cgb hg4) ?_
        refine Qt (Qe (QC (Qe (Qc (sMv rfl rfl rfl ?_)))))
        obtain ⟨b4, hx7, h⟩ := ob_e h
        refine Qa rfl (ZR rfl rfl rfl rfl rfl slF145 (i := 1) rfl hx7) ?_
        refine Qa rfl (OpT_loadOA (S := Ze) (vs := [vU64 b4.Packed.Addr, vU32 b4.Packed.Len, vU16 b4.Packed.ID, vU16 b4.Packed.Flags, vI b4.id, vB b4.wrap]) rfl rfl rfl rfl rfl tyF148 (i := 1) rfl hx7 rfl) ?_
        refine Qu rfl (QD rfl rfl rfl tyZ148) fun b5 => ?_
        refine sAs rfl rfl rfl ?_
        refine Qa rfl (Qo (cs' := [vU64 b4.Packed.Addr, vU32 b4.Packed.Len, vU16 b4.Packed.ID, vU16 b4.Packed.Flags, vI b4.id, vB b4.wrap]) rfl rfl rfl rfl tyF148 (i := 2) rfl rfl rfl (QF rfl) rfl) ?_
        refine Qd (tZ [11, 12, 59, 60, 61, 14, 13] [0, 1, 2] [0] rfl rfl rfl rfl ?_)
        refine QU (by kernel_rfl) ?_
        refine Xn [0, 0, 0, 6, 14, 30, 0, 64, 254, 510, 1023, 2047] (by kernel_rfl) fun htb => ?_
        obtain ⟨p1, hx8, h⟩ := ob_e h
        refine QW (lo := 0) (hi := 10) htb rfl rfl (by kernel_rfl) (fun c L a w => ∃ (v10 : Value), ∃ (p2 : Value), ∃ (p3 : Value), ∃ (v11 : Value), Sat c ⟨[(11, some (.pointer (some ⟨b3, 0, none⟩))), (12, some v8), (59, some v9), (60, some (vI (len packed1))), (61, some (vI x2)), (14, some (.pointer (some ⟨b5, 0, none⟩))), (13, some (vI x2)), (66, bif L 0 then some (v8) else none), (67, bif L 1 then some (v10) else none), (68, bif L 2 then some (vI x2) else none), (69, bif L 3 then some (p2) else none), (70, bif L 4 then some (p3) else none), (71, bif L 5 then some (vI p1.At) else none), (72, bif L 6 then some (.pointer (some ⟨b5, 0, none⟩)) else none), (73, bif L 7 then some (.agg #[vU64 b4.Packed.Addr, vU32 b4.Packed.Len, vU16 b4.Packed.ID, vU16 b4.Packed.Flags]) else none), (74, bif L 8 then some (.agg #[vI p1.At, vU64 b4.Packed.Addr, vU32 b4.Packed.Len, vU16 b4.Packed.ID, vU16 b4.Packed.Flags]) else none), (75, bif L 9 then some (v11) else none)], [(some (rowS QS v8 out1) : Option Res), (some (rowS Ze v9 l1) : Option Res), (some (Qm b5 148 [vU64 b4.Packed.Addr, vU32 b4.Packed.Len, vU16 b4.Packed.ID, vU16 b4.Packed.Flags, vI b4.id, vB b4.wrap]) : Option Res), (bif L 9 then some (rowS QS v11 [(PutPacked.mk p1.At b4.Packed)]) else none : Option Res)], [Fact.pt (Shape.slice PosS) (.pointer (some ⟨b3, 0, none⟩)) m3, (bif L 1 then Fact.sl PosS v10 m3 else Fact.tt), (bif L 3 then Fact.pt PosS p2 p1 else Fact.tt), (bif L 4 then Fact.pt iS p3 p1.At else Fact.tt)]⟩ a w) [([], []), ([], [3, 4, 5, 8, 9]), ([], [3, 4, 5, 8, 9]), ([1, 2], [4, 5, 8, 9]), ([1, 2, 3], [5, 8, 9]), ([1, 2, 3, 4], [8, 9]), ([], [7, 8, 9]), ([6], [8, 9]), ([1, 2, 3, 4, 5, 6, 7], [9]), ([1, 2, 3, 4, 5, 6, 7, 8], [])] rfl (by kernel_rfl) ?_ (Qb ?_ (Qb ?_ (Qb ?_ (Qb ?_ (Qb ?_ (Qb ?_ (Qb ?_ (Qb ?_ (Qb ?_ (Qb ?_ (QB))))))))))) ?_
        ·intro a w hs
         exact ⟨undef, undef, undef, undef, hs.startF [66, 67, 68, 69, 70, 71, 72, 73, 74, 75] [0, 1, 2, 3] [0, 1, 2, 3] rfl rfl rfl rfl⟩
        ·intro L a w hv K Q hK
         obtain ⟨v10, p2, p3, v11, hs⟩ := hv
         exact wGo rfl rfl hs (Qk rfl rfl rfl rfl) fun a w hs => hK a w ⟨v10, p2, p3, v11, pF hs 7 [0, 1, 2, 3] [0, 1, 2, 3] rfl⟩
        ·intro L a w hv K Q hK
         obtain ⟨v10, p2, p3, v11, hs⟩ := hv
         refine QO rfl rfl hs (Yn rfl rfl rfl rfl tyF144 (i := 0) rfl) ?_
         rintro _ ⟨v10', rfl⟩ a' w' hs'
         exact hK a' w' ⟨v10', p2, p3, v11, hs'.putF (i := 8) rfl [0, 1, 2, 3] [0, 4, 2, 3] rfl rfl rfl rfl⟩
        ·intro L a w hv K Q hK
         obtain ⟨v10, p2, p3, v11, hs⟩ := hv
         exact wGo rfl rfl hs (Qk rfl rfl rfl rfl) fun a w hs => hK a w ⟨v10, p2, p3, v11, pF hs 9 [0, 1, 2, 3] [0, 1, 2, 3] rfl⟩
        ·intro L a w hv K Q hK
         obtain ⟨v10, p2, p3, v11, hs⟩ := hv
         refine QO rfl rfl hs (Zb rfl rfl rfl rfl rfl slF144 (i := 1) rfl hx8) ?_
         rintro _ ⟨p2', rfl⟩ a' w' hs'
         exact hK a' w' ⟨v10, p2', p3, v11, hs'.putF (i := 10) rfl [0, 1, 2, 3] [0, 1, 4, 3] rfl rfl rfl rfl⟩
        ·intro L a w hv K Q hK
         obtain ⟨v10, p2, p3, v11, hs⟩ := hv
         refine QO rfl rfl hs (Zg (S' := iS) (y := p1.At) rfl rfl rfl rfl Yc (i := 2) rfl (by intro h cs hr; subst hr; rfl)) ?_
         rintro _ ⟨p3', rfl⟩ a' w' hs'
         exact hK a' w' ⟨v10, p2, p3', v11, hs'.putF (i := 11) rfl [0, 1, 2, 3] [0, 1, 2, 4] rfl rfl rfl rfl⟩
        ·intro L a w hv K Q hK
         obtain ⟨v10, p2, p3, v11, hs⟩ := hv
         exact wGo rfl rfl hs (Zj rfl rfl rfl rfl tyF3 (i := 3) rfl rfl) fun a w hs => hK a w ⟨v10, p2, p3, v11, pF hs 12 [0, 1, 2, 3] [0, 1, 2, 3] rfl⟩
        ·intro L a w hv K Q hK
         obtain ⟨v10, p2, p3, v11, hs⟩ := hv
         exact wGo rfl rfl hs (Qi rfl rfl rfl rfl YW) fun a w hs => hK a w ⟨v10, p2, p3, v11, pF hs 13 [0, 1, 2, 3] [0, 1, 2, 3] rfl⟩
        ·intro L a w hv K Q hK
         obtain ⟨v10, p2, p3, v11, hs⟩ := hv
         exact wGo rfl rfl hs (Qy (vs := [vU64 b4.Packed.Addr, vU32 b4.Packed.Len, vU16 b4.Packed.ID, vU16 b4.Packed.Flags]) rfl rfl rfl rfl tyF87 (i := 2) rfl rfl rfl) fun a w hs => hK a w ⟨v10, p2, p3, v11, pF hs 14 [0, 1, 2, 3] [0, 1, 2, 3] rfl⟩
        ·intro L a w hv K Q hK
         obtain ⟨v10, p2, p3, v11, hs⟩ := hv
         exact wGo rfl rfl hs (QE (v := .agg #[vI p1.At, vU64 b4.Packed.Addr, vU32 b4.Packed.Len, vU16 b4.Packed.ID, vU16 b4.Packed.Flags]) rfl rfl rfl rfl (bldV (by kernel_rfl))) fun a w hs => hK a w ⟨v10, p2, p3, v11, pF hs 15 [0, 1, 2, 3] [0, 1, 2, 3] rfl⟩
        ·intro L a w hv K Q hK
         obtain ⟨v10, p2, p3, v11, hs⟩ := hv
         refine QO rfl rfl hs (QK (S := QS) (xs := [(PutPacked.mk p1.At b4.Packed)]) (css := [[vI p1.At, vU64 b4.Packed.Addr, vU32 b4.Packed.Len, vU16 b4.Packed.ID, vU16 b4.Packed.Flags]]) (cs := [vI p1.At, vU64 b4.Packed.Addr, vU32 b4.Packed.Len, vU16 b4.Packed.ID, vU16 b4.Packed.Flags]) (e := 89) rfl rfl rfl rfl (bldF slF83 (by decide) (by kernel_rfl)) rfl rfl rfl rfl (Zd (S := QS) (xs := [(PutPacked.mk p1.At b4.Packed)]) (css := [[vI p1.At, vU64 b4.Packed.Addr, vU32 b4.Packed.Len, vU16 b4.Packed.ID, vU16 b4.Packed.Flags]]) rfl rfl)) ?_
         rintro _ ⟨v11', rfl⟩ a' w' hs'
         exact hK a' w' ⟨v10, p2, p3, v11', hs'.putF (i := 16) rfl [0, 1, 2, 4] [0, 1, 2, 3] rfl rfl rfl rfl⟩
        ·intro L a w hL hv
         rw [QM hL] at hv
         obtain ⟨v10, p2, p3, v11, hs⟩ := hv
         refine gZ hs [11, 59, 60, 61, 66, 75] [0, 1, 3] [0] rfl rfl rfl rfl ?_
         clear hs hL
         obtain ⟨hc2, h⟩ := ZK h
         refine TA_ex htb (by kernel_rfl) rfl rfl (Zw (S := QS) rfl rfl rfl rfl rfl rfl slF83 (i := 0) (j := 2) rfl rfl hc2) fun v12 => ?_
         refine Qx htb (by kernel_rfl) rfl rfl (QN rfl rfl rfl rfl) ?_
         refine Zh rfl ?_
         refine tZ [11, 59, 60, 61, 12] [0, 1] [0] rfl rfl rfl rfl ?_
         refine Zx (Qc (Qa rfl (Qf rfl rfl rfl rfl rfl (QG (a := x2) (b := (1 : Int)))) ?_))
         refine sMv rfl rfl rfl ?_
         refine Qd (tZ [11, 59, 60, 61, 12] [0, 1] [0] rfl rfl rfl rfl ?_)
         exact QY (out1 ++ [(PutPacked.mk p1.At b4.Packed)], l1, wi (x2 + (1 : Int)), v12, v9) h [11, 12, 59, 60, 61] [0, 1] [0] rfl rfl rfl rfl rfl
       ·replace h := br_f hg4 h
        refine Qp (cgb hg4) ?_
        refine Zv _ rfl ?_
        refine Qe (Qc (sMv rfl rfl rfl ?_))
        refine sAs rfl rfl rfl ?_
        refine sAs rfl rfl rfl ?_
        refine Qd (tZ [8, 9] [0] [] rfl rfl rfl rfl ?_)
        obtain rfl := Option.some.inj h
        exact Qn rfl rfl (resA (vs := [v8, vI (0 : Int)]) rfl ⟨rfl, rfl, trivial⟩) [0] [] rfl rfl rfl ⟨v8, rfl, rfl, rfl⟩
  ·replace h := br_f hg1 h
   refine Xx htb (by kernel_rfl) rfl rfl rfl (cgb hg1) (Qj rfl rfl rfl rfl tyF3 (i := 1) rfl rfl) ?_
   rintro _ rfl
   refine Xx htb (by kernel_rfl) rfl rfl rfl (cgb hg1) (Qf rfl rfl rfl rfl rfl (QI (a := id) (b := (0 : Int)))) ?_
   rintro _ rfl
   refine Qx htb (by kernel_rfl) rfl rfl (Qw rfl rfl rfl (cgb hg1) rfl) ?_
   refine Qx htb (by kernel_rfl) rfl rfl (Qk rfl rfl rfl rfl) ?_
   refine aZ [1, 3, 4, 6, 16, 25] [0, 1] [0, 1] rfl rfl rfl rfl ?_
   rcases bC (decide (id < (0 : Int))) with hg5 | hg5
   ·replace h := br_t hg5 h
    refine QW (lo := 11) (hi := 13) htb rfl rfl (by kernel_rfl) (fun c L a w => Sat c ⟨[(1, some (vI size)), (3, some vl1), (4, some (.pointer (some ⟨b1, 0, none⟩))), (6, some (.pointer (some ⟨b2, 0, none⟩))), (16, some v1), (25, some (vB (decide (id < (0 : Int))))), (26, bif L 11 then some (undef) else none), (27, bif L 12 then some (undef) else none)], [(some (Qm b1 60 [vI pp0.At, vB pp0.Wrap]) : Option Res), (some (Qm b2 3 [vI id]) : Option Res)], [Fact.sl SegS vl1 l, Fact.fn Try.prog av0 vI v1 (fun _ => buffer1)]⟩ a w) [([], []), ([], [])] rfl (by kernel_rfl) ?_ (Qb ?_ (Qb ?_ (QB))) ?_
    ·intro a w hs
     exact hs.startF [26, 27] [0, 1] [0, 1] rfl rfl rfl rfl
    ·intro L a w hs K Q hK
     exact QA rfl rfl rfl hs (cgb hg5) rfl rfl fun a w hs => hK a w (pF hs 6 [0, 1] [0, 1] rfl)
    ·intro L a w hs K Q hK
     exact QA rfl rfl rfl hs (cgb hg5) rfl rfl fun a w hs => hK a w (pF hs 7 [0, 1] [0, 1] rfl)
    ·intro L a w hL hv
     rw [QM hL] at hv
     have hs := hv
     refine gZ hs [1, 3, 4, 6, 16, 25, 26, 27] [0, 1] [0, 1] rfl rfl rfl rfl ?_
     clear hs hL
     refine KR htb (by kernel_rfl) rfl rfl rfl (cgb hg5) rfl rfl ?_
     refine Qx htb (by kernel_rfl) rfl rfl (Qr rfl rfl rfl (cgb hg5) rfl) ?_
     refine Qx htb (by kernel_rfl) rfl rfl (Qk rfl rfl rfl rfl) ?_
     refine aZ [1, 3, 4, 6, 16, 30] [0, 1] [0, 1] rfl rfl rfl rfl ?_
     refine QW (lo := 16) (hi := 19) htb rfl rfl (by kernel_rfl) (fun c L a w => Sat c ⟨[(1, some (vI size)), (3, some vl1), (4, some (.pointer (some ⟨b1, 0, none⟩))), (6, some (.pointer (some ⟨b2, 0, none⟩))), (16, some v1), (30, some (vB true)), (31, bif L 16 then some (undef) else none), (32, bif L 17 then some (undef) else none), (33, bif L 18 then some (undef) else none)], [(some (Qm b1 60 [vI pp0.At, vB pp0.Wrap]) : Option Res), (some (Qm b2 3 [vI id]) : Option Res)], [Fact.sl SegS vl1 l, Fact.fn Try.prog av0 vI v1 (fun _ => buffer1)]⟩ a w) [([], [17]), ([16], []), ([], [])] rfl (by kernel_rfl) ?_ (Qb ?_ (Qb ?_ (Qb ?_ (QB)))) ?_
     ·intro a w hs
      exact hs.startF [31, 32, 33] [0, 1] [0, 1] rfl rfl rfl rfl
     ·intro L a w hs K Q hK
      exact QA rfl rfl rfl hs rfl rfl rfl fun a w hs => hK a w (pF hs 6 [0, 1] [0, 1] rfl)
     ·intro L a w hs K Q hK
      exact QA rfl rfl rfl hs rfl rfl rfl fun a w hs => hK a w (pF hs 7 [0, 1] [0, 1] rfl)
     ·intro L a w hs K Q hK
      exact QA rfl rfl rfl hs rfl rfl rfl fun a w hs => hK a w (pF hs 8 [0, 1] [0, 1] rfl)
     ·intro L a w hL hv
      rw [QM hL] at hv
      have hs := hv
      refine gZ hs [1, 3, 4, 6, 16, 30, 32, 33] [0, 1] [0, 1] rfl rfl rfl rfl ?_
      clear hs hL
      refine KR htb (by kernel_rfl) rfl rfl rfl rfl rfl rfl ?_
      refine Qx htb (by kernel_rfl) rfl rfl (Qr rfl rfl rfl rfl rfl) ?_
      obtain ⟨wrong2, hx9, h⟩ := ob_e h
      refine Ka htb (by kernel_rfl) rfl rfl (Qv (ZN hx9) [] [] rfl rfl rfl rfl rfl Kj rfl rfl rfl rfl) ?_
      rintro _ ⟨v13, _, _, ⟨_, rfl, rfl, rfl⟩, rfl⟩
      refine TA_ex htb (by kernel_rfl) rfl rfl (ZS fnS132 (vs := [v1, v13]) (xs := [buffer1, wrong2]) rfl rfl rfl rfl rfl slF175 rfl rfl rfl (Xo (KL (i := 1) rfl) (Xo (KL (i := 2) rfl) (KX rfl)))) fun v14 => ?_
      obtain ⟨first2, hx10, h⟩ := ob_e h
      refine Ka htb (by kernel_rfl) rfl rfl (Zu [2] [0, 1, 2] (ZE hx10) [] rfl rfl rfl rfl rfl YO rfl rfl rfl rfl rfl rfl (Zl (Xa 2 rfl rfl) ZZ) (by rintro _ _ _ ⟨rfl, rfl, rfl⟩; exact ⟨rfl, XS⟩)) ?_
      rintro _ ⟨_, _, _, ⟨rfl, rfl, rfl⟩, rfl⟩
      refine aZ [1, 3, 4, 6, 38] [0, 1] [0] rfl rfl rfl rfl ?_
      refine Qx htb (by kernel_rfl) rfl rfl (QN rfl rfl rfl rfl) ?_
      refine Zh rfl ?_
      refine tZ [1, 3, 4, 6, 10] [0, 1] [0] rfl rfl rfl rfl ?_
      refine Qe (Qc (sMv rfl rfl rfl ?_))
      refine Qa rfl (Qf rfl rfl rfl rfl rfl (QL (a := first2) (b := (0 : Int)))) ?_
      refine Qd (tZ [1, 3, 4, 6, 10, 40] [0, 1] [0] rfl rfl rfl rfl ?_)
      rcases bC (first2 != (0 : Int)) with hg6 | hg6
      ·replace h := br_t hg6 h
       refine Ql (cgb hg6) ?_
       refine Qe (Qc (sMv rfl rfl rfl ?_))
       refine sAs rfl rfl rfl ?_
       refine sAs rfl rfl rfl ?_
       refine Qd (tZ [8, 9] [] [] rfl rfl rfl rfl ?_)
       refine Zr QS ?_
       obtain rfl := Option.some.inj h
       exact Qn rfl rfl (resA (vs := [.slice none 0 0, vI first2]) rfl ⟨rfl, rfl, trivial⟩) [0] [] rfl rfl rfl ⟨(.slice none 0 0), rfl, rfl, rfl⟩
      ·replace h := br_f hg6 h
       refine Qp (cgb hg6) ?_
       refine Qt (Qe (Qc (Qu rfl (QD rfl rfl rfl tyZ144) fun b6 => ?_)))
       refine Qd (tZ [1, 3, 4, 6, 11] [0, 1, 2] [0] rfl rfl rfl rfl ?_)
       refine Qe (Qe (Qc (sMv rfl rfl rfl ?_)))
       refine Qa rfl (QT rfl rfl rfl rfl Try.underlying41 (i := 0) rfl) ?_
       refine sMv rfl rfl rfl ?_
       refine Qd (tZ [1, 3, 4, 6, 11, 43, 44] [0, 1, 2] [0] rfl rfl rfl rfl ?_)
       refine QC (Zr PosS ?_)
       refine Zf (σ := Pos × Int × (List Pos) × Int × Value) [1, 3, 4, 6, 11, 43, 44] [0, 1, 2, 3] [0] (fun s => ⟨[(1, some (vI size)), (3, some vl1), (4, some (.pointer (some ⟨b1, 0, none⟩))), (6, some (.pointer (some ⟨b2, 0, none⟩))), (11, some (.pointer (some ⟨b6, 0, none⟩))), (43, some (vI (len l))), (44, some (vI s.2.2.2.1))], [some (Qm b1 60 [vI s.1.At, vB s.1.Wrap]), some (Qm b2 3 [vI s.2.1]), some (Qm b6 144 [s.2.2.2.2]), some (rowS PosS s.2.2.2.2 s.2.2.1)], [Fact.sl SegS vl1 l]⟩) (fun nf3 s => build_PackedL3 size l nf3 s.1 s.2.1 s.2.2.1 s.2.2.2.1 = some r) fuel (pp0, id, ([] : List Pos), (0 : Int), .slice none 0 0) h rfl rfl rfl rfl rfl (fun s h => by cases h) ?_
       rintro nf3 ⟨m4, m5, m6, x3, v15⟩ h
       replace h : build_PackedL3B size l (build_PackedL3 size l nf3) m4 m5 m6 x3 = some r := h
       unfold build_PackedL3B at h
       refine Qe (Qc (Qa rfl (Qf rfl rfl rfl rfl rfl (QI (a := x3) (b := len l))) ?_))
       refine Qd (Qe ?_)
       rcases bC (decide (x3 < (len l))) with hg7 | hg7
       ·replace h := br_t hg7 h
        refine Ql (cgb hg7) ?_
        refine Qt (Qe (QC (Qe (Qc (Qa rfl (Qj rfl rfl rfl rfl tyF144 (i := 2) rfl rfl) ?_)))))
        refine Qa rfl (Qy (vs := [vI m4.At, vB m4.Wrap]) rfl rfl rfl rfl YK (i := 0) rfl rfl rfl) ?_
        refine Qu rfl (QK (S := PosS) (xs := [m4]) (css := [[vI m4.At, vB m4.Wrap]]) (cs := [vI m4.At, vB m4.Wrap]) (e := 60) rfl rfl rfl rfl (bldF slF144 (by decide) (by kernel_rfl)) rfl rfl rfl rfl (Zd (S := PosS) (xs := [m4]) (css := [[vI m4.At, vB m4.Wrap]]) rfl rfl)) fun v16 => ?_
        obtain ⟨hc3, h⟩ := ZK h
        refine Qu rfl (Zw (S := PosS) rfl rfl rfl rfl rfl rfl slF144 (i := 3) (j := 4) rfl rfl hc3) fun v17 => ?_
        refine Qa rfl (Ym (cs' := [v17]) rfl rfl rfl rfl tyF144 (i := 2) rfl (Jf (i := 3) rfl) rfl rfl) ?_
        refine Qd (tZ [1, 3, 4, 6, 11, 43, 44] [0, 1, 2, 3] [0] rfl rfl rfl rfl ?_)
        refine Qc (Qa rfl (Qy (vs := [vI m4.At, vB m4.Wrap]) rfl rfl rfl rfl YK (i := 0) rfl rfl rfl) ?_)
        refine sMv rfl rfl rfl ?_
        obtain ⟨go2, hx11, h⟩ := ob_e h
        refine Qs rfl (Qv (w_serial_Go hx11) [] [] rfl rfl rfl rfl rfl callee73 rfl rfl rfl rfl) ?_
        rintro _ ⟨_, _, _, ⟨rfl, rfl, rfl⟩, rfl⟩
        refine sMv rfl rfl rfl ?_
        refine Qa rfl (Qq rfl rfl rfl rfl rfl) ?_
        refine Qa rfl (Qq rfl rfl rfl rfl rfl) ?_
        refine Qa rfl (Qo (cs' := [vI go2.1.At, vB go2.1.Wrap]) rfl rfl rfl rfl YK (i := 0) rfl rfl rfl (QF rfl) rfl) ?_
        refine Qd (tZ [1, 3, 4, 6, 11, 43, 44] [0, 1, 2, 3] [0] rfl rfl rfl rfl ?_)
        refine Zx (Qc (Qa rfl (Qf rfl rfl rfl rfl rfl (QG (a := x3) (b := (1 : Int)))) ?_))
        refine sMv rfl rfl rfl ?_
        refine Qd (tZ [1, 3, 4, 6, 11, 43, 44] [0, 1, 2, 3] [0] rfl rfl rfl rfl ?_)
        exact QY (go2.1, m5, m6 ++ [m4], wi (x3 + (1 : Int)), v17) h [1, 3, 4, 6, 11, 43, 44] [0, 1, 2, 3] [0] rfl rfl rfl rfl rfl
       ·replace h := br_f hg7 h
        refine Qp (cgb hg7) ?_
        refine Zv _ rfl ?_
        refine Qe (Qc (sAs rfl rfl rfl ?_))
        refine Qd (tZ [3, 6, 11, 12] [1, 2, 3] [0] rfl rfl rfl rfl ?_)
        refine Qe (Qe (Qc (sMv rfl rfl rfl ?_)))
        refine Qa rfl (Xm (vs := [.pointer (some ⟨b2, 0, none⟩), .pointer (some ⟨b6, 0, none⟩)]) rfl rfl rfl rfl) ?_
        refine Yb (XP iS (x := m5) (i := 0) rfl (fun _ _ => rfl)) ?_
        refine YZ (i := 2) rfl ?_
        refine Yb (XP (Shape.slice PosS) (x := m6) (i := 1) rfl (rel_sl (i := 2) rfl)) ?_
        refine Yb (vs_add (Fact.fn Try.prog (fun (x : Int) => [vI x]) (fun (x : build_packed) => .agg #[vU64 x.Packed.Addr, vU32 x.Packed.Len, vU16 x.Packed.ID, vU16 x.Packed.Flags, vI x.id, vB x.wrap]) (.func (.func 75) #[] #[(.pointer (some ⟨b2, 0, none⟩)), (.pointer (some ⟨b6, 0, none⟩))]) (fun x => ZM x m5 m6)) (fun R hF => ⟨rfl, fun x r hx => ⟨75, [(.pointer (some ⟨b2, 0, none⟩)), (.pointer (some ⟨b6, 0, none⟩))], [Fact.pt iS (.pointer (some ⟨b2, 0, none⟩)) m5, Fact.pt (Shape.slice PosS) (.pointer (some ⟨b6, 0, none⟩)) m6], rfl, callee75, (KD (mem_at (i := 1) rfl hF) (KD (mem_at (i := 3) rfl hF) fal_nil)), KA hx⟩⟩)) ?_
        obtain ⟨packed2, hx12, h⟩ := ob_e h
        refine Qs rfl (Qv (Xh hx12) [] [0, 4] rfl rfl rfl rfl rfl callee74 rfl rfl rfl rfl) ?_
        rintro _ ⟨v18, _, _, ⟨_, rfl, rfl, rfl⟩, rfl⟩
        refine Qa rfl (OpT_lenO rfl rfl rfl rfl Try.underlying145 (i := 3) rfl) ?_
        refine sMv rfl rfl rfl ?_
        refine Qd (tZ [11, 12, 59, 60, 61] [3] [3] rfl rfl rfl rfl ?_)
        refine QC (Zr QS ?_)
        refine Zf (σ := (List PutPacked) × (List build_packed) × Int × Value × Value) [11, 12, 59, 60, 61] [1, 0] [0] (fun s => ⟨[(11, some (.pointer (some ⟨b6, 0, none⟩))), (12, some (s.2.2.2.1)), (59, some (s.2.2.2.2)), (60, some (vI (len packed2))), (61, some (vI s.2.2.1))], [some (rowS QS s.2.2.2.1 s.1), some (rowS Ze s.2.2.2.2 s.2.1)], [Fact.pt (Shape.slice PosS) (.pointer (some ⟨b6, 0, none⟩)) m6]⟩) (fun nf4 s => build_PackedL4 m6 packed2 nf4 s.1 s.2.1 s.2.2.1 = some r) fuel ([], packed2, (0 : Int), (.slice none 0 0), v18) h rfl rfl rfl rfl rfl (fun s h => by cases h) ?_
        rintro nf4 ⟨out2, l2, x4, v19, v20⟩ h
        replace h : build_PackedL4B m6 packed2 (build_PackedL4 m6 packed2 nf4) out2 l2 x4 = some r := h
        unfold build_PackedL4B at h
        refine Qe (Qc (Qa rfl (Qf rfl rfl rfl rfl rfl (QI (a := x4) (b := len packed2))) ?_))
        refine Qd (Qe ?_)
        rcases bC (decide (x4 < (len packed2))) with hg8 | hg8
        ·replace h := br_t hg8 h
         refine Ql (cgb hg8) ?_
         refine Qt (Qe (QC (Qe (Qc (sMv rfl rfl rfl ?_)))))
         obtain ⟨b7, hx13, h⟩ := ob_e h
         refine Qa rfl (ZR rfl rfl rfl rfl rfl slF145 (i := 1) rfl hx13) ?_
         refine Qa rfl (OpT_loadOA (S := Ze) (vs := [vU64 b7.Packed.Addr, vU32 b7.Packed.Len, vU16 b7.Packed.ID, vU16 b7.Packed.Flags, vI b7.id, vB b7.wrap]) rfl rfl rfl rfl rfl tyF148 (i := 1) rfl hx13 rfl) ?_
         refine Qu rfl (QD rfl rfl rfl tyZ148) fun b8 => ?_
         refine sAs rfl rfl rfl ?_
         refine Qa rfl (Qo (cs' := [vU64 b7.Packed.Addr, vU32 b7.Packed.Len, vU16 b7.Packed.ID, vU16 b7.Packed.Flags, vI b7.id, vB b7.wrap]) rfl rfl rfl rfl tyF148 (i := 2) rfl rfl rfl (QF rfl) rfl) ?_
         refine Qd (tZ [11, 12, 59, 60, 61, 14, 13] [0, 1, 2] [0] rfl rfl rfl rfl ?_)
         refine QU (by kernel_rfl) ?_
         refine Xn [0, 0, 0, 6, 14, 30, 0, 64, 254, 510, 1023, 2047] (by kernel_rfl) fun htb => ?_
         obtain ⟨p4, hx14, h⟩ := ob_e h
         refine QW (lo := 0) (hi := 10) htb rfl rfl (by kernel_rfl) (fun c L a w => ∃ (v21 : Value), ∃ (p5 : Value), ∃ (p6 : Value), ∃ (v22 : Value), Sat c ⟨[(11, some (.pointer (some ⟨b6, 0, none⟩))), (12, some v19), (59, some v20), (60, some (vI (len packed2))), (61, some (vI x4)), (14, some (.pointer (some ⟨b8, 0, none⟩))), (13, some (vI x4)), (66, bif L 0 then some (v19) else none), (67, bif L 1 then some (v21) else none), (68, bif L 2 then some (vI x4) else none), (69, bif L 3 then some (p5) else none), (70, bif L 4 then some (p6) else none), (71, bif L 5 then some (vI p4.At) else none), (72, bif L 6 then some (.pointer (some ⟨b8, 0, none⟩)) else none), (73, bif L 7 then some (.agg #[vU64 b7.Packed.Addr, vU32 b7.Packed.Len, vU16 b7.Packed.ID, vU16 b7.Packed.Flags]) else none), (74, bif L 8 then some (.agg #[vI p4.At, vU64 b7.Packed.Addr, vU32 b7.Packed.Len, vU16 b7.Packed.ID, vU16 b7.Packed.Flags]) else none), (75, bif L 9 then some (v22) else none)], [(some (rowS QS v19 out2) : Option Res), (some (rowS Ze v20 l2) : Option Res), (some (Qm b8 148 [vU64 b7.Packed.Addr, vU32 b7.Packed.Len, vU16 b7.Packed.ID, vU16 b7.Packed.Flags, vI b7.id, vB b7.wrap]) : Option Res), (bif L 9 then some (rowS QS v22 [(PutPacked.mk p4.At b7.Packed)]) else none : Option Res)], [Fact.pt (Shape.slice PosS) (.pointer (some ⟨b6, 0, none⟩)) m6, (bif L 1 then Fact.sl PosS v21 m6 else Fact.tt), (bif L 3 then Fact.pt PosS p5 p4 else Fact.tt), (bif L 4 then Fact.pt iS p6 p4.At else Fact.tt)]⟩ a w) [([], []), ([], [3, 4, 5, 8, 9]), ([], [3, 4, 5, 8, 9]), ([1, 2], [4, 5, 8, 9]), ([1, 2, 3], [5, 8, 9]), ([1, 2, 3, 4], [8, 9]), ([], [7, 8, 9]), ([6], [8, 9]), ([1, 2, 3, 4, 5, 6, 7], [9]), ([1, 2, 3, 4, 5, 6, 7, 8], [])] rfl (by kernel_rfl) ?_ (Qb ?_ (Qb ?_ (Qb ?_ (Qb ?_ (Qb ?_ (Qb ?_ (Qb ?_ (Qb ?_ (Qb ?_ (Qb ?_ (QB))))))))))) ?_
         ·intro a w hs
          exact ⟨undef, undef, undef, undef, hs.startF [66, 67, 68, 69, 70, 71, 72, 73, 74, 75] [0, 1, 2, 3] [0, 1, 2, 3] rfl rfl rfl rfl⟩
         ·intro L a w hv K Q hK
          obtain ⟨v21, p5, p6, v22, hs⟩ := hv
          exact wGo rfl rfl hs (Qk rfl rfl rfl rfl) fun a w hs => hK a w ⟨v21, p5, p6, v22, pF hs 7 [0, 1, 2, 3] [0, 1, 2, 3] rfl⟩
         ·intro L a w hv K Q hK
          obtain ⟨v21, p5, p6, v22, hs⟩ := hv
          refine QO rfl rfl hs (Yn rfl rfl rfl rfl tyF144 (i := 0) rfl) ?_
          rintro _ ⟨v21', rfl⟩ a' w' hs'
          exact hK a' w' ⟨v21', p5, p6, v22, hs'.putF (i := 8) rfl [0, 1, 2, 3] [0, 4, 2, 3] rfl rfl rfl rfl⟩
         ·intro L a w hv K Q hK
          obtain ⟨v21, p5, p6, v22, hs⟩ := hv
          exact wGo rfl rfl hs (Qk rfl rfl rfl rfl) fun a w hs => hK a w ⟨v21, p5, p6, v22, pF hs 9 [0, 1, 2, 3] [0, 1, 2, 3] rfl⟩
         ·intro L a w hv K Q hK
          obtain ⟨v21, p5, p6, v22, hs⟩ := hv
          refine QO rfl rfl hs (Zb rfl rfl rfl rfl rfl slF144 (i := 1) rfl hx14) ?_
          rintro _ ⟨p5', rfl⟩ a' w' hs'
          exact hK a' w' ⟨v21, p5', p6, v22, hs'.putF (i := 10) rfl [0, 1, 2, 3] [0, 1, 4, 3] rfl rfl rfl rfl⟩
         ·intro L a w hv K Q hK
          obtain ⟨v21, p5, p6, v22, hs⟩ := hv
          refine QO rfl rfl hs (Zg (S' := iS) (y := p4.At) rfl rfl rfl rfl Yc (i := 2) rfl (by intro h cs hr; subst hr; rfl)) ?_
          rintro _ ⟨p6', rfl⟩ a' w' hs'
          exact hK a' w' ⟨v21, p5, p6', v22, hs'.putF (i := 11) rfl [0, 1, 2, 3] [0, 1, 2, 4] rfl rfl rfl rfl⟩
         ·intro L a w hv K Q hK
          obtain ⟨v21, p5, p6, v22, hs⟩ := hv
          exact wGo rfl rfl hs (Zj rfl rfl rfl rfl tyF3 (i := 3) rfl rfl) fun a w hs => hK a w ⟨v21, p5, p6, v22, pF hs 12 [0, 1, 2, 3] [0, 1, 2, 3] rfl⟩
         ·intro L a w hv K Q hK
          obtain ⟨v21, p5, p6, v22, hs⟩ := hv
          exact wGo rfl rfl hs (Qi rfl rfl rfl rfl YW) fun a w hs => hK a w ⟨v21, p5, p6, v22, pF hs 13 [0, 1, 2, 3] [0, 1, 2, 3] rfl⟩
         ·intro L a w hv K Q hK
          obtain ⟨v21, p5, p6, v22, hs⟩ := hv
          exact wGo rfl rfl hs (Qy (vs := [vU64 b7.Packed.Addr, vU32 b7.Packed.Len, vU16 b7.Packed.ID, vU16 b7.Packed.Flags]) rfl rfl rfl rfl tyF87 (i := 2) rfl rfl rfl) fun a w hs => hK a w ⟨v21, p5, p6, v22, pF hs 14 [0, 1, 2, 3] [0, 1, 2, 3] rfl⟩
         ·intro L a w hv K Q hK
          obtain ⟨v21, p5, p6, v22, hs⟩ := hv
          exact wGo rfl rfl hs (QE (v := .agg #[vI p4.At, vU64 b7.Packed.Addr, vU32 b7.Packed.Len, vU16 b7.Packed.ID, vU16 b7.Packed.Flags]) rfl rfl rfl rfl (bldV (by kernel_rfl))) fun a w hs => hK a w ⟨v21, p5, p6, v22, pF hs 15 [0, 1, 2, 3] [0, 1, 2, 3] rfl⟩
         ·intro L a w hv K Q hK
          obtain ⟨v21, p5, p6, v22, hs⟩ := hv
          refine QO rfl rfl hs (QK (S := QS) (xs := [(PutPacked.mk p4.At b7.Packed)]) (css := [[vI p4.At, vU64 b7.Packed.Addr, vU32 b7.Packed.Len, vU16 b7.Packed.ID, vU16 b7.Packed.Flags]]) (cs := [vI p4.At, vU64 b7.Packed.Addr, vU32 b7.Packed.Len, vU16 b7.Packed.ID, vU16 b7.Packed.Flags]) (e := 89) rfl rfl rfl rfl (bldF slF83 (by decide) (by kernel_rfl)) rfl rfl rfl rfl (Zd (S := QS) (xs := [(PutPacked.mk p4.At b7.Packed)]) (css := [[vI p4.At, vU64 b7.Packed.Addr, vU32 b7.Packed.Len, vU16 b7.Packed.ID, vU16 b7.Packed.Flags]]) rfl rfl)) ?_
          rintro _ ⟨v22', rfl⟩ a' w' hs'
          exact hK a' w' ⟨v21, p5, p6, v22', hs'.putF (i := 16) rfl [0, 1, 2, 4] [0, 1, 2, 3] rfl rfl rfl rfl⟩
         ·intro L a w hL hv
          rw [QM hL] at hv
          obtain ⟨v21, p5, p6, v22, hs⟩ := hv
          refine gZ hs [11, 59, 60, 61, 66, 75] [0, 1, 3] [0] rfl rfl rfl rfl ?_
          clear hs hL
          obtain ⟨hc4, h⟩ := ZK h
          refine TA_ex htb (by kernel_rfl) rfl rfl (Zw (S := QS) rfl rfl rfl rfl rfl rfl slF83 (i := 0) (j := 2) rfl rfl hc4) fun v23 => ?_
          refine Qx htb (by kernel_rfl) rfl rfl (QN rfl rfl rfl rfl) ?_
          refine Zh rfl ?_
          refine tZ [11, 59, 60, 61, 12] [0, 1] [0] rfl rfl rfl rfl ?_
          refine Zx (Qc (Qa rfl (Qf rfl rfl rfl rfl rfl (QG (a := x4) (b := (1 : Int)))) ?_))
          refine sMv rfl rfl rfl ?_
          refine Qd (tZ [11, 59, 60, 61, 12] [0, 1] [0] rfl rfl rfl rfl ?_)
          exact QY (out2 ++ [(PutPacked.mk p4.At b7.Packed)], l2, wi (x4 + (1 : Int)), v23, v20) h [11, 12, 59, 60, 61] [0, 1] [0] rfl rfl rfl rfl rfl
        ·replace h := br_f hg8 h
         refine Qp (cgb hg8) ?_
         refine Zv _ rfl ?_
         refine Qe (Qc (sMv rfl rfl rfl ?_))
         refine sAs rfl rfl rfl ?_
         refine sAs rfl rfl rfl ?_
         refine Qd (tZ [8, 9] [0] [] rfl rfl rfl rfl ?_)
         obtain rfl := Option.some.inj h
         exact Qn rfl rfl (resA (vs := [v19, vI (0 : Int)]) rfl ⟨rfl, rfl, trivial⟩) [0] [] rfl rfl rfl ⟨v19, rfl, rfl, rfl⟩
   ·replace h := br_f hg5 h
    refine QW (lo := 11) (hi := 13) htb rfl rfl (by kernel_rfl) (fun c L a w => Sat c ⟨[(1, some (vI size)), (3, some vl1), (4, some (.pointer (some ⟨b1, 0, none⟩))), (6, some (.pointer (some ⟨b2, 0, none⟩))), (16, some v1), (25, some (vB (decide (id < (0 : Int))))), (26, bif L 11 then some (vI id) else none), (27, bif L 12 then some (vI size) else none)], [(some (Qm b1 60 [vI pp0.At, vB pp0.Wrap]) : Option Res), (some (Qm b2 3 [vI id]) : Option Res)], [Fact.sl SegS vl1 l, Fact.fn Try.prog av0 vI v1 (fun _ => buffer1)]⟩ a w) [([], []), ([], [])] rfl (by kernel_rfl) ?_ (Qb ?_ (Qb ?_ (QB))) ?_
    ·intro a w hs
     exact hs.startF [26, 27] [0, 1] [0, 1] rfl rfl rfl rfl
    ·intro L a w hs K Q hK
     exact wYs rfl rfl rfl hs (cgb hg5) (Qj rfl rfl rfl rfl tyF3 (i := 1) rfl rfl) fun a w hs => hK a w (pF hs 6 [0, 1] [0, 1] rfl)
    ·intro L a w hs K Q hK
     exact wYs rfl rfl rfl hs (cgb hg5) (Qk rfl rfl rfl rfl) fun a w hs => hK a w (pF hs 7 [0, 1] [0, 1] rfl)
    ·intro L a w hL hv
     rw [QM hL] at hv
     have hs := hv
     refine gZ hs [1, 3, 4, 6, 16, 25, 26, 27] [0, 1] [0, 1] rfl rfl rfl rfl ?_
     clear hs hL
     refine Xx htb (by kernel_rfl) rfl rfl rfl (cgb hg5) (Qf rfl rfl rfl rfl rfl (YF (a := id) (b := size))) ?_
     rintro _ rfl
     refine Qx htb (by kernel_rfl) rfl rfl (Qw rfl rfl rfl (cgb hg5) rfl) ?_
     refine Qx htb (by kernel_rfl) rfl rfl (Qk rfl rfl rfl rfl) ?_
     refine aZ [1, 3, 4, 6, 16, 30] [0, 1] [0, 1] rfl rfl rfl rfl ?_
     rcases bC (decide (id ≥ size)) with hg9 | hg9
     ·replace h := br_t hg9 h
      refine QW (lo := 16) (hi := 19) htb rfl rfl (by kernel_rfl) (fun c L a w => Sat c ⟨[(1, some (vI size)), (3, some vl1), (4, some (.pointer (some ⟨b1, 0, none⟩))), (6, some (.pointer (some ⟨b2, 0, none⟩))), (16, some v1), (30, some (vB (decide (id ≥ size)))), (31, bif L 16 then some (undef) else none), (32, bif L 17 then some (undef) else none), (33, bif L 18 then some (undef) else none)], [(some (Qm b1 60 [vI pp0.At, vB pp0.Wrap]) : Option Res), (some (Qm b2 3 [vI id]) : Option Res)], [Fact.sl SegS vl1 l, Fact.fn Try.prog av0 vI v1 (fun _ => buffer1)]⟩ a w) [([], [17]), ([16], []), ([], [])] rfl (by kernel_rfl) ?_ (Qb ?_ (Qb ?_ (Qb ?_ (QB)))) ?_
      ·intro a w hs
       exact hs.startF [31, 32, 33] [0, 1] [0, 1] rfl rfl rfl rfl
      ·intro L a w hs K Q hK
       exact QA rfl rfl rfl hs (cgb hg9) rfl rfl fun a w hs => hK a w (pF hs 6 [0, 1] [0, 1] rfl)
      ·intro L a w hs K Q hK
       exact QA rfl rfl rfl hs (cgb hg9) rfl rfl fun a w hs => hK a w (pF hs 7 [0, 1] [0, 1] rfl)
      ·intro L a w hs K Q hK
       exact QA rfl rfl rfl hs (cgb hg9) rfl rfl fun a w hs => hK a w (pF hs 8 [0, 1] [0, 1] rfl)
      ·intro L a w hL hv
       rw [QM hL] at hv
       have hs := hv
       refine gZ hs [1, 3, 4, 6, 16, 30, 32, 33] [0, 1] [0, 1] rfl rfl rfl rfl ?_
       clear hs hL
       refine KR htb (by kernel_rfl) rfl rfl rfl (cgb hg9) rfl rfl ?_
       refine Qx htb (by kernel_rfl) rfl rfl (Qr rfl rfl rfl (cgb hg9) rfl) ?_
       obtain ⟨wrong3, hx15, h⟩ := ob_e h
       refine Ka htb (by kernel_rfl) rfl rfl (Qv (ZN hx15) [] [] rfl rfl rfl rfl rfl Kj rfl rfl rfl rfl) ?_
       rintro _ ⟨v24, _, _, ⟨_, rfl, rfl, rfl⟩, rfl⟩
       refine TA_ex htb (by kernel_rfl) rfl rfl (ZS fnS132 (vs := [v1, v24]) (xs := [buffer1, wrong3]) rfl rfl rfl rfl rfl slF175 rfl rfl rfl (Xo (KL (i := 1) rfl) (Xo (KL (i := 2) rfl) (KX rfl)))) fun v25 => ?_
       obtain ⟨first3, hx16, h⟩ := ob_e h
       refine Ka htb (by kernel_rfl) rfl rfl (Zu [2] [0, 1, 2] (ZE hx16) [] rfl rfl rfl rfl rfl YO rfl rfl rfl rfl rfl rfl (Zl (Xa 2 rfl rfl) ZZ) (by rintro _ _ _ ⟨rfl, rfl, rfl⟩; exact ⟨rfl, XS⟩)) ?_
       rintro _ ⟨_, _, _, ⟨rfl, rfl, rfl⟩, rfl⟩
       refine aZ [1, 3, 4, 6, 38] [0, 1] [0] rfl rfl rfl rfl ?_
       refine Qx htb (by kernel_rfl) rfl rfl (QN rfl rfl rfl rfl) ?_
       refine Zh rfl ?_
       refine tZ [1, 3, 4, 6, 10] [0, 1] [0] rfl rfl rfl rfl ?_
       refine Qe (Qc (sMv rfl rfl rfl ?_))
       refine Qa rfl (Qf rfl rfl rfl rfl rfl (QL (a := first3) (b := (0 : Int)))) ?_
       refine Qd (tZ [1, 3, 4, 6, 10, 40] [0, 1] [0] rfl rfl rfl rfl ?_)
       rcases bC (first3 != (0 : Int)) with hg10 | hg10
       ·replace h := br_t hg10 h
        refine Ql (cgb hg10) ?_
        refine Qe (Qc (sMv rfl rfl rfl ?_))
        refine sAs rfl rfl rfl ?_
        refine sAs rfl rfl rfl ?_
        refine Qd (tZ [8, 9] [] [] rfl rfl rfl rfl ?_)
        refine Zr QS ?_
        obtain rfl := Option.some.inj h
        exact Qn rfl rfl (resA (vs := [.slice none 0 0, vI first3]) rfl ⟨rfl, rfl, trivial⟩) [0] [] rfl rfl rfl ⟨(.slice none 0 0), rfl, rfl, rfl⟩
       ·replace h := br_f hg10 h
        refine Qp (cgb hg10) ?_
        refine Qt (Qe (Qc (Qu rfl (QD rfl rfl rfl tyZ144) fun b9 => ?_)))
        refine Qd (tZ [1, 3, 4, 6, 11] [0, 1, 2] [0] rfl rfl rfl rfl ?_)
        refine Qe (Qe (Qc (sMv rfl rfl rfl ?_)))
        refine Qa rfl (QT rfl rfl rfl rfl Try.underlying41 (i := 0) rfl) ?_
        refine sMv rfl rfl rfl ?_
        refine Qd (tZ [1, 3, 4, 6, 11, 43, 44] [0, 1, 2] [0] rfl rfl rfl rfl ?_)
        refine QC (Zr PosS ?_)
        refine Zf (σ := Pos × Int × (List Pos) × Int × Value) [1, 3, 4, 6, 11, 43, 44] [0, 1, 2, 3] [0] (fun s => ⟨[(1, some (vI size)), (3, some vl1), (4, some (.pointer (some ⟨b1, 0, none⟩))), (6, some (.pointer (some ⟨b2, 0, none⟩))), (11, some (.pointer (some ⟨b9, 0, none⟩))), (43, some (vI (len l))), (44, some (vI s.2.2.2.1))], [some (Qm b1 60 [vI s.1.At, vB s.1.Wrap]), some (Qm b2 3 [vI s.2.1]), some (Qm b9 144 [s.2.2.2.2]), some (rowS PosS s.2.2.2.2 s.2.2.1)], [Fact.sl SegS vl1 l]⟩) (fun nf5 s => build_PackedL5 size l nf5 s.1 s.2.1 s.2.2.1 s.2.2.2.1 = some r) fuel (pp0, id, ([] : List Pos), (0 : Int), .slice none 0 0) h rfl rfl rfl rfl rfl (fun s h => by cases h) ?_
        rintro nf5 ⟨m7, m8, m9, x5, v26⟩ h
        replace h : build_PackedL5B size l (build_PackedL5 size l nf5) m7 m8 m9 x5 = some r := h
        unfold build_PackedL5B at h
        refine Qe (Qc (Qa rfl (Qf rfl rfl rfl rfl rfl (QI (a := x5) (b := len l))) ?_))
        refine Qd (Qe ?_)
        rcases bC (decide (x5 < (len l))) with hg11 | hg11
        ·replace h := br_t hg11 h
         refine Ql (cgb hg11) ?_
         refine Qt (Qe (QC (Qe (Qc (Qa rfl (Qj rfl rfl rfl rfl tyF144 (i := 2) rfl rfl) ?_)))))
         refine Qa rfl (Qy (vs := [vI m7.At, vB m7.Wrap]) rfl rfl rfl rfl YK (i := 0) rfl rfl rfl) ?_
         refine Qu rfl (QK (S := PosS) (xs := [m7]) (css := [[vI m7.At, vB m7.Wrap]]) (cs := [vI m7.At, vB m7.Wrap]) (e := 60) rfl rfl rfl rfl (bldF slF144 (by decide) (by kernel_rfl)) rfl rfl rfl rfl (Zd (S := PosS) (xs := [m7]) (css := [[vI m7.At, vB m7.Wrap]]) rfl rfl)) fun v27 => ?_
         obtain ⟨hc5, h⟩ := ZK h
         refine Qu rfl (Zw (S := PosS) rfl rfl rfl rfl rfl rfl slF144 (i := 3) (j := 4) rfl rfl hc5) fun v28 => ?_
         refine Qa rfl (Ym (cs' := [v28]) rfl rfl rfl rfl tyF144 (i := 2) rfl (Jf (i := 3) rfl) rfl rfl) ?_
         refine Qd (tZ [1, 3, 4, 6, 11, 43, 44] [0, 1, 2, 3] [0] rfl rfl rfl rfl ?_)
         refine Qc (Qa rfl (Qy (vs := [vI m7.At, vB m7.Wrap]) rfl rfl rfl rfl YK (i := 0) rfl rfl rfl) ?_)
         refine sMv rfl rfl rfl ?_
         obtain ⟨go3, hx17, h⟩ := ob_e h
         refine Qs rfl (Qv (w_serial_Go hx17) [] [] rfl rfl rfl rfl rfl callee73 rfl rfl rfl rfl) ?_
         rintro _ ⟨_, _, _, ⟨rfl, rfl, rfl⟩, rfl⟩
         refine sMv rfl rfl rfl ?_
         refine Qa rfl (Qq rfl rfl rfl rfl rfl) ?_
         refine Qa rfl (Qq rfl rfl rfl rfl rfl) ?_
         refine Qa rfl (Qo (cs' := [vI go3.1.At, vB go3.1.Wrap]) rfl rfl rfl rfl YK (i := 0) rfl rfl rfl (QF rfl) rfl) ?_
         refine Qd (tZ [1, 3, 4, 6, 11, 43, 44] [0, 1, 2, 3] [0] rfl rfl rfl rfl ?_)
         refine Zx (Qc (Qa rfl (Qf rfl rfl rfl rfl rfl (QG (a := x5) (b := (1 : Int)))) ?_))
         refine sMv rfl rfl rfl ?_
         refine Qd (tZ [1, 3, 4, 6, 11, 43, 44] [0, 1, 2, 3] [0] rfl rfl rfl rfl ?_)
         exact QY (go3.1, m8, m9 ++ [m7], wi (x5 + (1 : Int)), v28) h [1, 3, 4, 6, 11, 43, 44] [0, 1, 2, 3] [0] rfl rfl rfl rfl rfl
        ·replace h := br_f hg11 h
         refine Qp (cgb hg11) ?_
         refine Zv _ rfl ?_
         refine Qe (Qc (sAs rfl rfl rfl ?_))
         refine Qd (tZ [3, 6, 11, 12] [1, 2, 3] [0] rfl rfl rfl rfl ?_)
         refine Qe (Qe (Qc (sMv rfl rfl rfl ?_)))
         refine Qa rfl (Xm (vs := [.pointer (some ⟨b2, 0, none⟩), .pointer (some ⟨b9, 0, none⟩)]) rfl rfl rfl rfl) ?_
         refine Yb (XP iS (x := m8) (i := 0) rfl (fun _ _ => rfl)) ?_
         refine YZ (i := 2) rfl ?_
         refine Yb (XP (Shape.slice PosS) (x := m9) (i := 1) rfl (rel_sl (i := 2) rfl)) ?_
         refine Yb (vs_add (Fact.fn Try.prog (fun (x : Int) => [vI x]) (fun (x : build_packed) => .agg #[vU64 x.Packed.Addr, vU32 x.Packed.Len, vU16 x.Packed.ID, vU16 x.Packed.Flags, vI x.id, vB x.wrap]) (.func (.func 75) #[] #[(.pointer (some ⟨b2, 0, none⟩)), (.pointer (some ⟨b9, 0, none⟩))]) (fun x => ZM x m8 m9)) (fun R hF => ⟨rfl, fun x r hx => ⟨75, [(.pointer (some ⟨b2, 0, none⟩)), (.pointer (some ⟨b9, 0, none⟩))], [Fact.pt iS (.pointer (some ⟨b2, 0, none⟩)) m8, Fact.pt (Shape.slice PosS) (.pointer (some ⟨b9, 0, none⟩)) m9], rfl, callee75, (KD (mem_at (i := 1) rfl hF) (KD (mem_at (i := 3) rfl hF) fal_nil)), KA hx⟩⟩)) ?_
         obtain ⟨packed3, hx18, h⟩ := ob_e h
         refine Qs rfl (Qv (Xh hx18) [] [0, 4] rfl rfl rfl rfl rfl callee74 rfl rfl rfl rfl) ?_
         rintro _ ⟨v29, _, _, ⟨_, rfl, rfl, rfl⟩, rfl⟩
         refine Qa rfl (OpT_lenO rfl rfl rfl rfl Try.underlying145 (i := 3) rfl) ?_
         refine sMv rfl rfl rfl ?_
         refine Qd (tZ [11, 12, 59, 60, 61] [3] [3] rfl rfl rfl rfl ?_)
         refine QC (Zr QS ?_)
         refine Zf (σ := (List PutPacked) × (List build_packed) × Int × Value × Value) [11, 12, 59, 60, 61] [1, 0] [0] (fun s => ⟨[(11, some (.pointer (some ⟨b9, 0, none⟩))), (12, some (s.2.2.2.1)), (59, some (s.2.2.2.2)), (60, some (vI (len packed3))), (61, some (vI s.2.2.1))], [some (rowS QS s.2.2.2.1 s.1), some (rowS Ze s.2.2.2.2 s.2.1)], [Fact.pt (Shape.slice PosS) (.pointer (some ⟨b9, 0, none⟩)) m9]⟩) (fun nf6 s => build_PackedL6 m9 packed3 nf6 s.1 s.2.1 s.2.2.1 = some r) fuel ([], packed3, (0 : Int), (.slice none 0 0), v29) h rfl rfl rfl rfl rfl (fun s h => by cases h) ?_
         rintro nf6 ⟨out3, l3, x6, v30, v31⟩ h
         replace h : build_PackedL6B m9 packed3 (build_PackedL6 m9 packed3 nf6) out3 l3 x6 = some r := h
         unfold build_PackedL6B at h
         refine Qe (Qc (Qa rfl (Qf rfl rfl rfl rfl rfl (QI (a := x6) (b := len packed3))) ?_))
         refine Qd (Qe ?_)
         rcases bC (decide (x6 < (len packed3))) with hg12 | hg12
         ·replace h := br_t hg12 h
          refine Ql (cgb hg12) ?_
          refine Qt (Qe (QC (Qe (Qc (sMv rfl rfl rfl ?_)))))
          obtain ⟨b10, hx19, h⟩ := ob_e h
          refine Qa rfl (ZR rfl rfl rfl rfl rfl slF145 (i := 1) rfl hx19) ?_
          refine Qa rfl (OpT_loadOA (S := Ze) (vs := [vU64 b10.Packed.Addr, vU32 b10.Packed.Len, vU16 b10.Packed.ID, vU16 b10.Packed.Flags, vI b10.id, vB b10.wrap]) rfl rfl rfl rfl rfl tyF148 (i := 1) rfl hx19 rfl) ?_
          refine Qu rfl (QD rfl rfl rfl tyZ148) fun b11 => ?_
          refine sAs rfl rfl rfl ?_
          refine Qa rfl (Qo (cs' := [vU64 b10.Packed.Addr, vU32 b10.Packed.Len, vU16 b10.Packed.ID, vU16 b10.Packed.Flags, vI b10.id, vB b10.wrap]) rfl rfl rfl rfl tyF148 (i := 2) rfl rfl rfl (QF rfl) rfl) ?_
          refine Qd (tZ [11, 12, 59, 60, 61, 14, 13] [0, 1, 2] [0] rfl rfl rfl rfl ?_)
          refine QU (by kernel_rfl) ?_
          refine Xn [0, 0, 0, 6, 14, 30, 0, 64, 254, 510, 1023, 2047] (by kernel_rfl) fun htb => ?_
          obtain ⟨p7, hx20, h⟩ := ob_e h
          refine QW (lo := 0) (hi := 10) htb rfl rfl (by kernel_rfl) (fun c L a w => ∃ (v32 : Value), ∃ (p8 : Value), ∃ (p9 : Value), ∃ (v33 : Value), Sat c ⟨[(11, some (.pointer (some ⟨b9, 0, none⟩))), (12, some v30), (59, some v31), (60, some (vI (len packed3))), (61, some (vI x6)), (14, some (.pointer (some ⟨b11, 0, none⟩))), (13, some (vI x6)), (66, bif L 0 then some (v30) else none), (67, bif L 1 then some (v32) else none), (68, bif L 2 then some (vI x6) else none), (69, bif L 3 then some (p8) else none), (70, bif L 4 then some (p9) else none), (71, bif L 5 then some (vI p7.At) else none), (72, bif L 6 then some (.pointer (some ⟨b11, 0, none⟩)) else none), (73, bif L 7 then some (.agg #[vU64 b10.Packed.Addr, vU32 b10.Packed.Len, vU16 b10.Packed.ID, vU16 b10.Packed.Flags]) else none), (74, bif L 8 then some (.agg #[vI p7.At, vU64 b10.Packed.Addr, vU32 b10.Packed.Len, vU16 b10.Packed.ID, vU16 b10.Packed.Flags]) else none), (75, bif L 9 then some (v33) else none)], [(some (rowS QS v30 out3) : Option Res), (some (rowS Ze v31 l3) : Option Res), (some (Qm b11 148 [vU64 b10.Packed.Addr, vU32 b10.Packed.Len, vU16 b10.Packed.ID, vU16 b10.Packed.Flags, vI b10.id, vB b10.wrap]) : Option Res), (bif L 9 then some (rowS QS v33 [(PutPacked.mk p7.At b10.Packed)]) else none : Option Res)], [Fact.pt (Shape.slice PosS) (.pointer (some ⟨b9, 0, none⟩)) m9, (bif L 1 then Fact.sl PosS v32 m9 else Fact.tt), (bif L 3 then Fact.pt PosS p8 p7 else Fact.tt), (bif L 4 then Fact.pt iS p9 p7.At else Fact.tt)]⟩ a w) [([], []), ([], [3, 4, 5, 8, 9]), ([], [3, 4, 5, 8, 9]), ([1, 2], [4, 5, 8, 9]), ([1, 2, 3], [5, 8, 9]), ([1, 2, 3, 4], [8, 9]), ([], [7, 8, 9]), ([6], [8, 9]), ([1, 2, 3, 4, 5, 6, 7], [9]), ([1, 2, 3, 4, 5, 6, 7, 8], [])] rfl (by kernel_rfl) ?_ (Qb ?_ (Qb ?_ (Qb ?_ (Qb ?_ (Qb ?_ (Qb ?_ (Qb ?_ (Qb ?_ (Qb ?_ (Qb ?_ (QB))))))))))) ?_
          ·intro a w hs
           exact ⟨undef, undef, undef, undef, hs.startF [66, 67, 68, 69, 70, 71, 72, 73, 74, 75] [0, 1, 2, 3] [0, 1, 2, 3] rfl rfl rfl rfl⟩
          ·intro L a w hv K Q hK
           obtain ⟨v32, p8, p9, v33, hs⟩ := hv
           exact wGo rfl rfl hs (Qk rfl rfl rfl rfl) fun a w hs => hK a w ⟨v32, p8, p9, v33, pF hs 7 [0, 1, 2, 3] [0, 1, 2, 3] rfl⟩
          ·intro L a w hv K Q hK
           obtain ⟨v32, p8, p9, v33, hs⟩ := hv
           refine QO rfl rfl hs (Yn rfl rfl rfl rfl tyF144 (i := 0) rfl) ?_
           rintro _ ⟨v32', rfl⟩ a' w' hs'
           exact hK a' w' ⟨v32', p8, p9, v33, hs'.putF (i := 8) rfl [0, 1, 2, 3] [0, 4, 2, 3] rfl rfl rfl rfl⟩
          ·intro L a w hv K Q hK
           obtain ⟨v32, p8, p9, v33, hs⟩ := hv
           exact wGo rfl rfl hs (Qk rfl rfl rfl rfl) fun a w hs => hK a w ⟨v32, p8, p9, v33, pF hs 9 [0, 1, 2, 3] [0, 1, 2, 3] rfl⟩
          ·intro L a w hv K Q hK
           obtain ⟨v32, p8, p9, v33, hs⟩ := hv
           refine QO rfl rfl hs (Zb rfl rfl rfl rfl rfl slF144 (i := 1) rfl hx20) ?_
           rintro _ ⟨p8', rfl⟩ a' w' hs'
           exact hK a' w' ⟨v32, p8', p9, v33, hs'.putF (i := 10) rfl [0, 1, 2, 3] [0, 1, 4, 3] rfl rfl rfl rfl⟩
          ·intro L a w hv K Q hK
           obtain ⟨v32, p8, p9, v33, hs⟩ := hv
           refine QO rfl rfl hs (Zg (S' := iS) (y := p7.At) rfl rfl rfl rfl Yc (i := 2) rfl (by intro h cs hr; subst hr; rfl)) ?_
           rintro _ ⟨p9', rfl⟩ a' w' hs'
           exact hK a' w' ⟨v32, p8, p9', v33, hs'.putF (i := 11) rfl [0, 1, 2, 3] [0, 1, 2, 4] rfl rfl rfl rfl⟩
          ·intro L a w hv K Q hK
           obtain ⟨v32, p8, p9, v33, hs⟩ := hv
           exact wGo rfl rfl hs (Zj rfl rfl rfl rfl tyF3 (i := 3) rfl rfl) fun a w hs => hK a w ⟨v32, p8, p9, v33, pF hs 12 [0, 1, 2, 3] [0, 1, 2, 3] rfl⟩
          ·intro L a w hv K Q hK
           obtain ⟨v32, p8, p9, v33, hs⟩ := hv
           exact wGo rfl rfl hs (Qi rfl rfl rfl rfl YW) fun a w hs => hK a w ⟨v32, p8, p9, v33, pF hs 13 [0, 1, 2, 3] [0, 1, 2, 3] rfl⟩
          ·intro L a w hv K Q hK
           obtain ⟨v32, p8, p9, v33, hs⟩ := hv
           exact wGo rfl rfl hs (Qy (vs := [vU64 b10.Packed.Addr, vU32 b10.Packed.Len, vU16 b10.Packed.ID, vU16 b10.Packed.Flags]) rfl rfl rfl rfl tyF87 (i := 2) rfl rfl rfl) fun a w hs => hK a w ⟨v32, p8, p9, v33, pF hs 14 [0, 1, 2, 3] [0, 1, 2, 3] rfl⟩
          ·intro L a w hv K Q hK
           obtain ⟨v32, p8, p9, v33, hs⟩ := hv
           exact wGo rfl rfl hs (QE (v := .agg #[vI p7.At, vU64 b10.Packed.Addr, vU32 b10.Packed.Len, vU16 b10.Packed.ID, vU16 b10.Packed.Flags]) rfl rfl rfl rfl (bldV (by kernel_rfl))) fun a w hs => hK a w ⟨v32, p8, p9, v33, pF hs 15 [0, 1, 2, 3] [0, 1, 2, 3] rfl⟩
          ·intro L a w hv K Q hK
           obtain ⟨v32, p8, p9, v33, hs⟩ := hv
           refine QO rfl rfl hs (QK (S := QS) (xs := [(PutPacked.mk p7.At b10.Packed)]) (css := [[vI p7.At, vU64 b10.Packed.Addr, vU32 b10.Packed.Len, vU16 b10.Packed.ID, vU16 b10.Packed.Flags]]) (cs := [vI p7.At, vU64 b10.Packed.Addr, vU32 b10.Packed.Len, vU16 b10.Packed.ID, vU16 b10.Packed.Flags]) (e := 89) rfl rfl rfl rfl (bldF slF83 (by decide) (by kernel_rfl)) rfl rfl rfl rfl (Zd (S := QS) (xs := [(PutPacked.mk p7.At b10.Packed)]) (css := [[vI p7.At, vU64 b10.Packed.Addr, vU32 b10.Packed.Len, vU16 b10.Packed.ID, vU16 b10.Packed.Flags]]) rfl rfl)) ?_
           rintro _ ⟨v33', rfl⟩ a' w' hs'
           exact hK a' w' ⟨v32, p8, p9, v33', hs'.putF (i := 16) rfl [0, 1, 2, 4] [0, 1, 2, 3] rfl rfl rfl rfl⟩
          ·intro L a w hL hv
           rw [QM hL] at hv
           obtain ⟨v32, p8, p9, v33, hs⟩ := hv
           refine gZ hs [11, 59, 60, 61, 66, 75] [0, 1, 3] [0] rfl rfl rfl rfl ?_
           clear hs hL
           obtain ⟨hc6, h⟩ := ZK h
           refine TA_ex htb (by kernel_rfl) rfl rfl (Zw (S := QS) rfl rfl rfl rfl rfl rfl slF83 (i := 0) (j := 2) rfl rfl hc6) fun v34 => ?_
           refine Qx htb (by kernel_rfl) rfl rfl (QN rfl rfl rfl rfl) ?_
           refine Zh rfl ?_
           refine tZ [11, 59, 60, 61, 12] [0, 1] [0] rfl rfl rfl rfl ?_
           refine Zx (Qc (Qa rfl (Qf rfl rfl rfl rfl rfl (QG (a := x6) (b := (1 : Int)))) ?_))
           refine sMv rfl rfl rfl ?_
           refine Qd (tZ [11, 59, 60, 61, 12] [0, 1] [0] rfl rfl rfl rfl ?_)
           exact QY (out3 ++ [(PutPacked.mk p7.At b10.Packed)], l3, wi (x6 + (1 : Int)), v34, v31) h [11, 12, 59, 60, 61] [0, 1] [0] rfl rfl rfl rfl rfl
         ·replace h := br_f hg12 h
          refine Qp (cgb hg12) ?_
          refine Zv _ rfl ?_
          refine Qe (Qc (sMv rfl rfl rfl ?_))
          refine sAs rfl rfl rfl ?_
          refine sAs rfl rfl rfl ?_
          refine Qd (tZ [8, 9] [0] [] rfl rfl rfl rfl ?_)
          obtain rfl := Option.some.inj h
          exact Qn rfl rfl (resA (vs := [v30, vI (0 : Int)]) rfl ⟨rfl, rfl, trivial⟩) [0] [] rfl rfl rfl ⟨v30, rfl, rfl, rfl⟩
     ·replace h := br_f hg9 h
      refine QW (lo := 16) (hi := 19) htb rfl rfl (by kernel_rfl) (fun c L a w => Sat c ⟨[(1, some (vI size)), (3, some vl1), (4, some (.pointer (some ⟨b1, 0, none⟩))), (6, some (.pointer (some ⟨b2, 0, none⟩))), (16, some v1), (30, some (vB (decide (id ≥ size)))), (31, bif L 16 then some (vl1) else none), (32, bif L 17 then some (vI (len l)) else none), (33, bif L 18 then some (vI size) else none)], [(some (Qm b1 60 [vI pp0.At, vB pp0.Wrap]) : Option Res), (some (Qm b2 3 [vI id]) : Option Res)], [Fact.sl SegS vl1 l, Fact.fn Try.prog av0 vI v1 (fun _ => buffer1)]⟩ a w) [([], [17]), ([16], []), ([], [])] rfl (by kernel_rfl) ?_ (Qb ?_ (Qb ?_ (Qb ?_ (QB)))) ?_
      ·intro a w hs
       exact hs.startF [31, 32, 33] [0, 1] [0, 1] rfl rfl rfl rfl
      ·intro L a w hs K Q hK
       exact wYs rfl rfl rfl hs (cgb hg9) (Qk rfl rfl rfl rfl) fun a w hs => hK a w (pF hs 6 [0, 1] [0, 1] rfl)
      ·intro L a w hs K Q hK
       exact wYs rfl rfl rfl hs (cgb hg9) (QT rfl rfl rfl rfl Try.underlying41 (i := 0) rfl) fun a w hs => hK a w (pF hs 7 [0, 1] [0, 1] rfl)
      ·intro L a w hs K Q hK
       exact wYs rfl rfl rfl hs (cgb hg9) (Qk rfl rfl rfl rfl) fun a w hs => hK a w (pF hs 8 [0, 1] [0, 1] rfl)
      ·intro L a w hL hv
       rw [QM hL] at hv
       have hs := hv
       refine gZ hs [1, 3, 4, 6, 16, 30, 32, 33] [0, 1] [0, 1] rfl rfl rfl rfl ?_
       clear hs hL
       refine Xx htb (by kernel_rfl) rfl rfl rfl (cgb hg9) (Qf rfl rfl rfl rfl rfl (Kz (a := len l) (b := size))) ?_
       rintro _ rfl
       refine Qx htb (by kernel_rfl) rfl rfl (Qw rfl rfl rfl (cgb hg9) rfl) ?_
       obtain ⟨wrong4, hx21, h⟩ := ob_e h
       refine Ka htb (by kernel_rfl) rfl rfl (Qv (ZN hx21) [] [] rfl rfl rfl rfl rfl Kj rfl rfl rfl rfl) ?_
       rintro _ ⟨v35, _, _, ⟨_, rfl, rfl, rfl⟩, rfl⟩
       refine TA_ex htb (by kernel_rfl) rfl rfl (ZS fnS132 (vs := [v1, v35]) (xs := [buffer1, wrong4]) rfl rfl rfl rfl rfl slF175 rfl rfl rfl (Xo (KL (i := 1) rfl) (Xo (KL (i := 2) rfl) (KX rfl)))) fun v36 => ?_
       obtain ⟨first4, hx22, h⟩ := ob_e h
       refine Ka htb (by kernel_rfl) rfl rfl (Zu [2] [0, 1, 2] (ZE hx22) [] rfl rfl rfl rfl rfl YO rfl rfl rfl rfl rfl rfl (Zl (Xa 2 rfl rfl) ZZ) (by rintro _ _ _ ⟨rfl, rfl, rfl⟩; exact ⟨rfl, XS⟩)) ?_
       rintro _ ⟨_, _, _, ⟨rfl, rfl, rfl⟩, rfl⟩
       refine aZ [1, 3, 4, 6, 38] [0, 1] [0] rfl rfl rfl rfl ?_
       refine Qx htb (by kernel_rfl) rfl rfl (QN rfl rfl rfl rfl) ?_
       refine Zh rfl ?_
       refine tZ [1, 3, 4, 6, 10] [0, 1] [0] rfl rfl rfl rfl ?_
       refine Qe (Qc (sMv rfl rfl rfl ?_))
       refine Qa rfl (Qf rfl rfl rfl rfl rfl (QL (a := first4) (b := (0 : Int)))) ?_
       refine Qd (tZ [1, 3, 4, 6, 10, 40] [0, 1] [0] rfl rfl rfl rfl ?_)
       rcases bC (first4 != (0 : Int)) with hg13 | hg13
       ·replace h := br_t hg13 h
        refine Ql (cgb hg13) ?_
        refine Qe (Qc (sMv rfl rfl rfl ?_))
        refine sAs rfl rfl rfl ?_
        refine sAs rfl rfl rfl ?_
        refine Qd (tZ [8, 9] [] [] rfl rfl rfl rfl ?_)
        refine Zr QS ?_
        obtain rfl := Option.some.inj h
        exact Qn rfl rfl (resA (vs := [.slice none 0 0, vI first4]) rfl ⟨rfl, rfl, trivial⟩) [0] [] rfl rfl rfl ⟨(.slice none 0 0), rfl, rfl, rfl⟩
       ·replace h := br_f hg13 h
        refine Qp (cgb hg13) ?_
        refine Qt (Qe (Qc (Qu rfl (QD rfl rfl rfl tyZ144) fun b12 => ?_)))
        refine Qd (tZ [1, 3, 4, 6, 11] [0, 1, 2] [0] rfl rfl rfl rfl ?_)
        refine Qe (Qe (Qc (sMv rfl rfl rfl ?_)))
        refine Qa rfl (QT rfl rfl rfl rfl Try.underlying41 (i := 0) rfl) ?_
        refine sMv rfl rfl rfl ?_
        refine Qd (tZ [1, 3, 4, 6, 11, 43, 44] [0, 1, 2] [0] rfl rfl rfl rfl ?_)
        refine QC (Zr PosS ?_)
        refine Zf (σ := Pos × Int × (List Pos) × Int × Value) [1, 3, 4, 6, 11, 43, 44] [0, 1, 2, 3] [0] (fun s => ⟨[(1, some (vI size)), (3, some vl1), (4, some (.pointer (some ⟨b1, 0, none⟩))), (6, some (.pointer (some ⟨b2, 0, none⟩))), (11, some (.pointer (some ⟨b12, 0, none⟩))), (43, some (vI (len l))), (44, some (vI s.2.2.2.1))], [some (Qm b1 60 [vI s.1.At, vB s.1.Wrap]), some (Qm b2 3 [vI s.2.1]), some (Qm b12 144 [s.2.2.2.2]), some (rowS PosS s.2.2.2.2 s.2.2.1)], [Fact.sl SegS vl1 l]⟩) (fun nf7 s => YJ size l nf7 s.1 s.2.1 s.2.2.1 s.2.2.2.1 = some r) fuel (pp0, id, ([] : List Pos), (0 : Int), .slice none 0 0) h rfl rfl rfl rfl rfl (fun s h => by cases h) ?_
        rintro nf7 ⟨m10, m11, m12, x7, v37⟩ h
        replace h : Jl size l (YJ size l nf7) m10 m11 m12 x7 = some r := h
        unfold Jl at h
        refine Qe (Qc (Qa rfl (Qf rfl rfl rfl rfl rfl (QI (a := x7) (b := len l))) ?_))
        refine Qd (Qe ?_)
        rcases bC (decide (x7 < (len l))) with hg14 | hg14
        ·replace h := br_t hg14 h
         refine Ql (cgb hg14) ?_
         refine Qt (Qe (QC (Qe (Qc (Qa rfl (Qj rfl rfl rfl rfl tyF144 (i := 2) rfl rfl) ?_)))))
         refine Qa rfl (Qy (vs := [vI m10.At, vB m10.Wrap]) rfl rfl rfl rfl YK (i := 0) rfl rfl rfl) ?_
         refine Qu rfl (QK (S := PosS) (xs := [m10]) (css := [[vI m10.At, vB m10.Wrap]]) (cs := [vI m10.At, vB m10.Wrap]) (e := 60) rfl rfl rfl rfl (bldF slF144 (by decide) (by kernel_rfl)) rfl rfl rfl rfl (Zd (S := PosS) (xs := [m10]) (css := [[vI m10.At, vB m10.Wrap]]) rfl rfl)) fun v38 => ?_
         obtain ⟨hc7, h⟩ := ZK h
         refine Qu rfl (Zw (S := PosS) rfl rfl rfl rfl rfl rfl slF144 (i := 3) (j := 4) rfl rfl hc7) fun v39 => ?_
         refine Qa rfl (Ym (cs' := [v39]) rfl rfl rfl rfl tyF144 (i := 2) rfl (Jf (i := 3) rfl) rfl rfl) ?_
         refine Qd (tZ [1, 3, 4, 6, 11, 43, 44] [0, 1, 2, 3] [0] rfl rfl rfl rfl ?_)
         refine Qc (Qa rfl (Qy (vs := [vI m10.At, vB m10.Wrap]) rfl rfl rfl rfl YK (i := 0) rfl rfl rfl) ?_)
         refine sMv rfl rfl rfl ?_
         obtain ⟨go4, hx23, h⟩ := ob_e h
         refine Qs rfl (Qv (w_serial_Go hx23) [] [] rfl rfl rfl rfl rfl callee73 rfl rfl rfl rfl) ?_
         rintro _ ⟨_, _, _, ⟨rfl, rfl, rfl⟩, rfl⟩
         refine sMv rfl rfl rfl ?_
         refine Qa rfl (Qq rfl rfl rfl rfl rfl) ?_
         refine Qa rfl (Qq rfl rfl rfl rfl rfl) ?_
         refine Qa rfl (Qo (cs' := [vI go4.1.At, vB go4.1.Wrap]) rfl rfl rfl rfl YK (i := 0) rfl rfl rfl (QF rfl) rfl) ?_
         refine Qd (tZ [1, 3, 4, 6, 11, 43, 44] [0, 1, 2, 3] [0] rfl rfl rfl rfl ?_)
         refine Zx (Qc (Qa rfl (Qf rfl rfl rfl rfl rfl (QG (a := x7) (b := (1 : Int)))) ?_))
         refine sMv rfl rfl rfl ?_
         refine Qd (tZ [1, 3, 4, 6, 11, 43, 44] [0, 1, 2, 3] [0] rfl rfl rfl rfl ?_)
         exact QY (go4.1, m11, m12 ++ [m10], wi (x7 + (1 : Int)), v39) h [1, 3, 4, 6, 11, 43, 44] [0, 1, 2, 3] [0] rfl rfl rfl rfl rfl
        ·replace h := br_f hg14 h
         refine Qp (cgb hg14) ?_
         refine Zv _ rfl ?_
         refine Qe (Qc (sAs rfl rfl rfl ?_))
         refine Qd (tZ [3, 6, 11, 12] [1, 2, 3] [0] rfl rfl rfl rfl ?_)
         refine Qe (Qe (Qc (sMv rfl rfl rfl ?_)))
         refine Qa rfl (Xm (vs := [.pointer (some ⟨b2, 0, none⟩), .pointer (some ⟨b12, 0, none⟩)]) rfl rfl rfl rfl) ?_
         refine Yb (XP iS (x := m11) (i := 0) rfl (fun _ _ => rfl)) ?_
         refine YZ (i := 2) rfl ?_
         refine Yb (XP (Shape.slice PosS) (x := m12) (i := 1) rfl (rel_sl (i := 2) rfl)) ?_
         refine Yb (vs_add (Fact.fn Try.prog (fun (x : Int) => [vI x]) (fun (x : build_packed) => .agg #[vU64 x.Packed.Addr, vU32 x.Packed.Len, vU16 x.Packed.ID, vU16 x.Packed.Flags, vI x.id, vB x.wrap]) (.func (.func 75) #[] #[(.pointer (some ⟨b2, 0, none⟩)), (.pointer (some ⟨b12, 0, none⟩))]) (fun x => ZM x m11 m12)) (fun R hF => ⟨rfl, fun x r hx => ⟨75, [(.pointer (some ⟨b2, 0, none⟩)), (.pointer (some ⟨b12, 0, none⟩))], [Fact.pt iS (.pointer (some ⟨b2, 0, none⟩)) m11, Fact.pt (Shape.slice PosS) (.pointer (some ⟨b12, 0, none⟩)) m12], rfl, callee75, (KD (mem_at (i := 1) rfl hF) (KD (mem_at (i := 3) rfl hF) fal_nil)), KA hx⟩⟩)) ?_
         obtain ⟨packed4, hx24, h⟩ := ob_e h
         refine Qs rfl (Qv (Xh hx24) [] [0, 4] rfl rfl rfl rfl rfl callee74 rfl rfl rfl rfl) ?_
         rintro _ ⟨v40, _, _, ⟨_, rfl, rfl, rfl⟩, rfl⟩
         refine Qa rfl (OpT_lenO rfl rfl rfl rfl Try.underlying145 (i := 3) rfl) ?_
         refine sMv rfl rfl rfl ?_
         refine Qd (tZ [11, 12, 59, 60, 61] [3] [3] rfl rfl rfl rfl ?_)
         refine QC (Zr QS ?_)
         refine Zf (σ := (List PutPacked) × (List build_packed) × Int × Value × Value) [11, 12, 59, 60, 61] [1, 0] [0] (fun s => ⟨[(11, some (.pointer (some ⟨b12, 0, none⟩))), (12, some (s.2.2.2.1)), (59, some (s.2.2.2.2)), (60, some (vI (len packed4))), (61, some (vI s.2.2.1))], [some (rowS QS s.2.2.2.1 s.1), some (rowS Ze s.2.2.2.2 s.2.1)], [Fact.pt (Shape.slice PosS) (.pointer (some ⟨b12, 0, none⟩)) m12]⟩) (fun nf8 s => YI m12 packed4 nf8 s.1 s.2.1 s.2.2.1 = some r) fuel ([], packed4, (0 : Int), (.slice none 0 0), v40) h rfl rfl rfl rfl rfl (fun s h => by cases h) ?_
         rintro nf8 ⟨out4, l4, x8, v41, v42⟩ h
         replace h : Jk m12 packed4 (YI m12 packed4 nf8) out4 l4 x8 = some r := h
         unfold Jk at h
         refine Qe (Qc (Qa rfl (Qf rfl rfl rfl rfl rfl (QI (a := x8) (b := len packed4))) ?_))
         refine Qd (Qe ?_)
         rcases bC (decide (x8 < (len packed4))) with hg15 | hg15
         ·replace h := br_t hg15 h
          refine Ql (cgb hg15) ?_
          refine Qt (Qe (QC (Qe (Qc (sMv rfl rfl rfl ?_)))))
          obtain ⟨b13, hx25, h⟩ := ob_e h
          refine Qa rfl (ZR rfl rfl rfl rfl rfl slF145 (i := 1) rfl hx25) ?_
          refine Qa rfl (OpT_loadOA (S := Ze) (vs := [vU64 b13.Packed.Addr, vU32 b13.Packed.Len, vU16 b13.Packed.ID, vU16 b13.Packed.Flags, vI b13.id, vB b13.wrap]) rfl rfl rfl rfl rfl tyF148 (i := 1) rfl hx25 rfl) ?_
          refine Qu rfl (QD rfl rfl rfl tyZ148) fun b14 => ?_
          refine sAs rfl rfl rfl ?_
          refine Qa rfl (Qo (cs' := [vU64 b13.Packed.Addr, vU32 b13.Packed.Len, vU16 b13.Packed.ID, vU16 b13.Packed.Flags, vI b13.id, vB b13.wrap]) rfl rfl rfl rfl tyF148 (i := 2) rfl rfl rfl (QF rfl) rfl) ?_
          refine Qd (tZ [11, 12, 59, 60, 61, 14, 13] [0, 1, 2] [0] rfl rfl rfl rfl ?_)
          refine QU (by kernel_rfl) ?_
          refine Xn [0, 0, 0, 6, 14, 30, 0, 64, 254, 510, 1023, 2047] (by kernel_rfl) fun htb => ?_
          obtain ⟨p10, hx26, h⟩ := ob_e h
          refine QW (lo := 0) (hi := 10) htb rfl rfl (by kernel_rfl) (fun c L a w => ∃ (v43 : Value), ∃ (p11 : Value), ∃ (p12 : Value), ∃ (v44 : Value), Sat c ⟨[(11, some (.pointer (some ⟨b12, 0, none⟩))), (12, some v41), (59, some v42), (60, some (vI (len packed4))), (61, some (vI x8)), (14, some (.pointer (some ⟨b14, 0, none⟩))), (13, some (vI x8)), (66, bif L 0 then some (v41) else none), (67, bif L 1 then some (v43) else none), (68, bif L 2 then some (vI x8) else none), (69, bif L 3 then some (p11) else none), (70, bif L 4 then some (p12) else none), (71, bif L 5 then some (vI p10.At) else none), (72, bif L 6 then some (.pointer (some ⟨b14, 0, none⟩)) else none), (73, bif L 7 then some (.agg #[vU64 b13.Packed.Addr, vU32 b13.Packed.Len, vU16 b13.Packed.ID, vU16 b13.Packed.Flags]) else none), (74, bif L 8 then some (.agg #[vI p10.At, vU64 b13.Packed.Addr, vU32 b13.Packed.Len, vU16 b13.Packed.ID, vU16 b13.Packed.Flags]) else none), (75, bif L 9 then some (v44) else none)], [(some (rowS QS v41 out4) : Option Res), (some (rowS Ze v42 l4) : Option Res), (some (Qm b14 148 [vU64 b13.Packed.Addr, vU32 b13.Packed.Len, vU16 b13.Packed.ID, vU16 b13.Packed.Flags, vI b13.id, vB b13.wrap]) : Option Res), (bif L 9 then some (rowS QS v44 [(PutPacked.mk p10.At b13.Packed)]) else none : Option Res)], [Fact.pt (Shape.slice PosS) (.pointer (some ⟨b12, 0, none⟩)) m12, (bif L 1 then Fact.sl PosS v43 m12 else Fact.tt), (bif L 3 then Fact.pt PosS p11 p10 else Fact.tt), (bif L 4 then Fact.pt iS p12 p10.At else Fact.tt)]⟩ a w) [([], []), ([], [3, 4, 5, 8, 9]), ([], [3, 4, 5, 8, 9]), ([1, 2], [4, 5, 8, 9]), ([1, 2, 3], [5, 8, 9]), ([1, 2, 3, 4], [8, 9]), ([], [7, 8, 9]), ([6], [8, 9]), ([1, 2, 3, 4, 5, 6, 7], [9]), ([1, 2, 3, 4, 5, 6, 7, 8], [])] rfl (by kernel_rfl) ?_ (Qb ?_ (Qb ?_ (Qb ?_ (Qb ?_ (Qb ?_ (Qb ?_ (Qb ?_ (Qb ?_ (Qb ?_ (Qb ?_ (QB))))))))))) ?_
          ·intro a w hs
           exact ⟨undef, undef, undef, undef, hs.startF [66, 67, 68, 69, 70, 71, 72, 73, 74, 75] [0, 1, 2, 3] [0, 1, 2, 3] rfl rfl rfl rfl⟩
          ·intro L a w hv K Q hK
           obtain ⟨v43, p11, p12, v44, hs⟩ := hv
           exact wGo rfl rfl hs (Qk rfl rfl rfl rfl) fun a w hs => hK a w ⟨v43, p11, p12, v44, pF hs 7 [0, 1, 2, 3] [0, 1, 2, 3] rfl⟩
          ·intro L a w hv K Q hK
           obtain ⟨v43, p11, p12, v44, hs⟩ := hv
           refine QO rfl rfl hs (Yn rfl rfl rfl rfl tyF144 (i := 0) rfl) ?_
           rintro _ ⟨v43', rfl⟩ a' w' hs'
           exact hK a' w' ⟨v43', p11, p12, v44, hs'.putF (i := 8) rfl [0, 1, 2, 3] [0, 4, 2, 3] rfl rfl rfl rfl⟩
          ·intro L a w hv K Q hK
           obtain ⟨v43, p11, p12, v44, hs⟩ := hv
           exact wGo rfl rfl hs (Qk rfl rfl rfl rfl) fun a w hs => hK a w ⟨v43, p11, p12, v44, pF hs 9 [0, 1, 2, 3] [0, 1, 2, 3] rfl⟩
          ·intro L a w hv K Q hK
           obtain ⟨v43, p11, p12, v44, hs⟩ := hv
           refine QO rfl rfl hs (Zb rfl rfl rfl rfl rfl slF144 (i := 1) rfl hx26) ?_
           rintro _ ⟨p11', rfl⟩ a' w' hs'
           exact hK a' w' ⟨v43, p11', p12, v44, hs'.putF (i := 10) rfl [0, 1, 2, 3] [0, 1, 4, 3] rfl rfl rfl rfl⟩
          ·intro L a w hv K Q hK
           obtain ⟨v43, p11, p12, v44, hs⟩ := hv
           refine QO rfl rfl hs (Zg (S' := iS) (y := p10.At) rfl rfl rfl rfl Yc (i := 2) rfl (by intro h cs hr; subst hr; rfl)) ?_
           rintro _ ⟨p12', rfl⟩ a' w' hs'
           exact hK a' w' ⟨v43, p11, p12', v44, hs'.putF (i := 11) rfl [0, 1, 2, 3] [0, 1, 2, 4] rfl rfl rfl rfl⟩
          ·intro L a w hv K Q hK
           obtain ⟨v43, p11, p12, v44, hs⟩ := hv
           exact wGo rfl rfl hs (Zj rfl rfl rfl rfl tyF3 (i := 3) rfl rfl) fun a w hs => hK a w ⟨v43, p11, p12, v44, pF hs 12 [0, 1, 2, 3] [0, 1, 2, 3] rfl⟩
          ·intro L a w hv K Q hK
           obtain ⟨v43, p11, p12, v44, hs⟩ := hv
           exact wGo rfl rfl hs (Qi rfl rfl rfl rfl YW) fun a w hs => hK a w ⟨v43, p11, p12, v44, pF hs 13 [0, 1, 2, 3] [0, 1, 2, 3] rfl⟩
          ·intro L a w hv K Q hK
           obtain ⟨v43, p11, p12, v44, hs⟩ := hv
           exact wGo rfl rfl hs (Qy (vs := [vU64 b13.Packed.Addr, vU32 b13.Packed.Len, vU16 b13.Packed.ID, vU16 b13.Packed.Flags]) rfl rfl rfl rfl tyF87 (i := 2) rfl rfl rfl) fun a w hs => hK a w ⟨v43, p11, p12, v44, pF hs 14 [0, 1, 2, 3] [0, 1, 2, 3] rfl⟩
          ·intro L a w hv K Q hK
           obtain ⟨v43, p11, p12, v44, hs⟩ := hv
           exact wGo rfl rfl hs (QE (v := .agg #[vI p10.At, vU64 b13.Packed.Addr, vU32 b13.Packed.Len, vU16 b13.Packed.ID, vU16 b13.Packed.Flags]) rfl rfl rfl rfl (bldV (by kernel_rfl))) fun a w hs => hK a w ⟨v43, p11, p12, v44, pF hs 15 [0, 1, 2, 3] [0, 1, 2, 3] rfl⟩
          ·intro L a w hv K Q hK
           obtain ⟨v43, p11, p12, v44, hs⟩ := hv
           refine QO rfl rfl hs (QK (S := QS) (xs := [(PutPacked.mk p10.At b13.Packed)]) (css := [[vI p10.At, vU64 b13.Packed.Addr, vU32 b13.Packed.Len, vU16 b13.Packed.ID, vU16 b13.Packed.Flags]]) (cs := [vI p10.At, vU64 b13.Packed.Addr, vU32 b13.Packed.Len, vU16 b13.Packed.ID, vU16 b13.Packed.Flags]) (e := 89) rfl rfl rfl rfl (bldF slF83 (by decide) (by kernel_rfl)) rfl rfl rfl rfl (Zd (S := QS) (xs := [(PutPacked.mk p10.At b13.Packed)]) (css := [[vI p10.At, vU64 b13.Packed.Addr, vU32 b13.Packed.Len, vU16 b13.Packed.ID, vU16 b13.Packed.Flags]]) rfl rfl)) ?_
           rintro _ ⟨v44', rfl⟩ a' w' hs'
           exact hK a' w' ⟨v43, p11, p12, v44', hs'.putF (i := 16) rfl [0, 1, 2, 4] [0, 1, 2, 3] rfl rfl rfl rfl⟩
          ·intro L a w hL hv
           rw [QM hL] at hv
           obtain ⟨v43, p11, p12, v44, hs⟩ := hv
           refine gZ hs [11, 59, 60, 61, 66, 75] [0, 1, 3] [0] rfl rfl rfl rfl ?_
           clear hs hL
           obtain ⟨hc8, h⟩ := ZK h
           refine TA_ex htb (by kernel_rfl) rfl rfl (Zw (S := QS) rfl rfl rfl rfl rfl rfl slF83 (i := 0) (j := 2) rfl rfl hc8) fun v45 => ?_
           refine Qx htb (by kernel_rfl) rfl rfl (QN rfl rfl rfl rfl) ?_
           refine Zh rfl ?_
           refine tZ [11, 59, 60, 61, 12] [0, 1] [0] rfl rfl rfl rfl ?_
           refine Zx (Qc (Qa rfl (Qf rfl rfl rfl rfl rfl (QG (a := x8) (b := (1 : Int)))) ?_))
           refine sMv rfl rfl rfl ?_
           refine Qd (tZ [11, 59, 60, 61, 12] [0, 1] [0] rfl rfl rfl rfl ?_)
           exact QY (out4 ++ [(PutPacked.mk p10.At b13.Packed)], l4, wi (x8 + (1 : Int)), v45, v42) h [11, 12, 59, 60, 61] [0, 1] [0] rfl rfl rfl rfl rfl
         ·replace h := br_f hg15 h
          refine Qp (cgb hg15) ?_
          refine Zv _ rfl ?_
          refine Qe (Qc (sMv rfl rfl rfl ?_))
          refine sAs rfl rfl rfl ?_
          refine sAs rfl rfl rfl ?_
          refine Qd (tZ [8, 9] [0] [] rfl rfl rfl rfl ?_)
          obtain rfl := Option.some.inj h
          exact Qn rfl rfl (resA (vs := [v41, vI (0 : Int)]) rfl ⟨rfl, rfl, trivial⟩) [0] [] rfl rfl rfl ⟨v41, rfl, rfl, rfl⟩
end Go.Proofs.Ytlofegfaphijpaa
