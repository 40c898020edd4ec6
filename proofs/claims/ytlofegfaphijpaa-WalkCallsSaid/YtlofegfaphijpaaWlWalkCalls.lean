/- The law WalkCalls is walked: it returns what its plain words say. No condition. -/
import Derived.Test.YtlofegfaphijpaaWa7
namespace Go.Proofs.Ytlofegfaphijpaa
attribute [local irreducible] sub

set_option maxRecDepth 100000 in
set_option maxHeartbeats 4000000 in
theorem w_law10zWalkCalls {size : Int} {l : List dumbwaiterlaw10_Spot} {head : Int} {pp3 : Pos} {table : Bool} {vl1 : Value}  (h : Kv size l head pp3 table = some true) :
  Ctr Try.prog 5 #[vI size, vl1, vI head, .agg #[vI pp3.At, vB pp3.Wrap], vB table] [] [Fact.sl Zl vl1 l]
   (fun rv own shr => rv = .bool true ∧ own = [] ∧ shr = []) := by
 unfold Kv at h
 refine Ctr.mk (args := [vI size, vl1, vI head, .agg #[vI pp3.At, vB pp3.Wrap], vB table]) Try.func5 rfl rfl (fun R0 w0 B => ?_)
 refine Qe (Qb (Qx rfl (Zr rfl rfl rfl rfl) fun b1 => ?_))
 refine sAs rfl rfl rfl ?_
 refine Qc (tZ [0, 1, 2, 4, 8] [0] [0] rfl rfl rfl rfl ?_)
 refine Qe (Qe (Qb ?_))
 obtain ⟨lives1, hx1, h⟩ := ob_e h
 refine Qr rfl (QD (w_law10zlives hx1) [] [] rfl rfl rfl rfl rfl callee8 rfl rfl rfl rfl) ?_
 rintro _ ⟨_, _, _, ⟨rfl, rfl, rfl⟩, rfl⟩
 refine Qa rfl (Xd rfl rfl rfl rfl) ?_
 refine Qc (tZ [0, 1, 2, 4, 8, 24] [0] [0] rfl rfl rfl rfl ?_)
 obtain ⟨hg1, h⟩ := Xy h
 replace hg1 := not_t hg1
 refine Qo (cgb hg1) ?_
 refine Qs (Qe (Qe (Qb (sMv rfl rfl rfl ?_))))
 refine Qa rfl (Zq rfl rfl rfl rfl Try.underlying62 (i := 0) rfl) ?_
 refine Qa rfl (Qg rfl rfl rfl rfl rfl (XR (a := len l) (b := (40 : Int)))) ?_
 refine Qc (tZ [0, 1, 2, 4, 8, 27] [0] [0] rfl rfl rfl rfl ?_)
 rcases bC (decide ((len l) > (40 : Int))) with hg2 | hg2
 ·replace h := br_t hg2 h
  refine Qk (cgb hg2) ?_
  refine Qe (Qb (sAs rfl rfl rfl ?_))
  refine Qc (tZ [10] [] [] rfl rfl rfl rfl ?_)
  exact Qm rfl rfl (resA (vs := [.bool true]) rfl ⟨rfl, trivial⟩) [] [] rfl rfl rfl ⟨rfl, rfl, rfl⟩
 ·replace h := br_f hg2 h
  refine Qo (cgb hg2) ?_
  refine Qs (Qe (Qb (sMv rfl rfl rfl ?_)))
  obtain ⟨pick1, hx2, h⟩ := ob_e h
  refine Qr rfl (QD (w_kit_Pick hx2) [] [] rfl rfl rfl rfl rfl callee9 rfl rfl rfl rfl) ?_
  rintro _ ⟨_, _, _, ⟨rfl, rfl, rfl⟩, rfl⟩
  refine Qa rfl (QU rfl rfl rfl rfl (ZY (n := pick1) Try.underlying3 Try.underlying23)) ?_
  refine Qa rfl (Qg rfl rfl rfl rfl rfl (bin_shl_i_u64 (a := (1 : Int)) (n := u64 pick1))) ?_
  refine sAs rfl rfl rfl ?_
  refine Qc (tZ [1, 2, 4, 8, 11] [0] [0] rfl rfl rfl rfl ?_)
  refine Qe (Qb (sMv rfl rfl rfl ?_))
  refine sMv rfl rfl rfl ?_
  obtain ⟨laid1, hx3, h⟩ := ob_e h
  refine Qr rfl (QD (w_law10zlaid hx3) [] [0] rfl rfl rfl rfl rfl callee10 rfl rfl rfl rfl) ?_
  rintro _ ⟨_, _, _, ⟨v1, v2, rfl, rfl, rfl⟩, rfl⟩
  refine sMv rfl rfl rfl ?_
  refine Qa rfl (Qp rfl rfl rfl rfl rfl) ?_
  refine Qa rfl (Qp rfl rfl rfl rfl rfl) ?_
  refine Qa rfl (Qp rfl rfl rfl rfl rfl) ?_
  refine Qa rfl (Qp rfl rfl rfl rfl rfl) ?_
  refine Qx rfl (QK rfl rfl rfl tyZ29) fun b2 => ?_
  refine sAs rfl rfl rfl ?_
  refine sAs rfl rfl rfl ?_
  refine Qa rfl (Qq (cs' := [vB laid1.2.2.1.Packed, vI laid1.2.2.1.Size, vU64 laid1.2.2.1.Desc, vU64 laid1.2.2.1.Driver, vU64 laid1.2.2.1.Device]) rfl rfl rfl rfl ZK (i := 3) rfl rfl rfl (QF rfl) rfl) ?_
  refine sAs rfl rfl rfl ?_
  refine Qc (tZ [1, 2, 4, 8, 11, 14, 12, 13, 15] [0, 1, 2, 3] [0] rfl rfl rfl rfl ?_)
  rcases YU h with ⟨ho1, h⟩ | ⟨mem1, ho1, h⟩
  ·cases h
  ·refine Tk_optS (i := 1) rfl ho1 ?_
   rintro b3 v3 v4 vs1 rfl
   rcases YU h with ⟨ho2, h⟩ | ⟨mem2, ho2, h⟩
   ·cases h
   ·refine Tk_optS (i := 2) rfl ho2 ?_
    rintro b4 v5 v6 vs2 rfl
    refine Qe (Qe (Qb (sMv rfl rfl rfl ?_)))
    refine Qa rfl (Xd rfl rfl rfl rfl) ?_
    refine Qc (tZ [1, 2, 4, 8, 11, 14, 12, 13, 41] [0, 1, 2, 3, 4, 5] [0, 1, 2] rfl rfl rfl rfl ?_)
    obtain ⟨hg3, h⟩ := Xy h
    replace hg3 := not_t hg3
    refine Qo (cgb hg3) ?_
    refine Qs (Qe (Qb (sMv rfl rfl rfl ?_)))
    refine Qa rfl (QA (vs := [vB laid1.2.2.1.Packed, vI laid1.2.2.1.Size, vU64 laid1.2.2.1.Desc, vU64 laid1.2.2.1.Driver, vU64 laid1.2.2.1.Device]) rfl rfl rfl rfl ZK (i := 3) rfl rfl rfl) ?_
    refine sMv rfl rfl rfl ?_
    refine sMv rfl rfl rfl ?_
    obtain ⟨split1, hx4, h⟩ := ob_e h
    refine Qr rfl (Qw [0, 6, 2, 3, 7, 5] (w_walk_Split hx4) [1, 4] [1] rfl rfl rfl rfl rfl callee13 rfl rfl rfl rfl rfl) ?_
    rintro _ ⟨_, _, _, ⟨v7, rfl, rfl, rfl⟩, rfl⟩
    refine sMv rfl rfl rfl ?_
    refine Qa rfl (Qp rfl rfl rfl rfl rfl) ?_
    refine Qa rfl (Qp rfl rfl rfl rfl rfl) ?_
    refine sAs rfl rfl rfl ?_
    refine sAs rfl rfl rfl ?_
    refine Qc (tZ [1, 2, 4, 8, 11, 14, 12, 13, 16, 17] [0, 1, 2, 3, 4, 5] [0, 1, 2, 3] rfl rfl rfl rfl ?_)
    refine Qe (Qb (sMv rfl rfl rfl ?_))
    refine Qa rfl (QA (vs := [vB laid1.2.2.1.Packed, vI laid1.2.2.1.Size, vU64 laid1.2.2.1.Desc, vU64 laid1.2.2.1.Driver, vU64 laid1.2.2.1.Device]) rfl rfl rfl rfl ZK (i := 3) rfl rfl rfl) ?_
    refine sMv rfl rfl rfl ?_
    refine sMv rfl rfl rfl ?_
    obtain ⟨split2, hx5, h⟩ := ob_e h
    refine Qr rfl (Qw [0, 1, 6, 3, 4, 7, 8] (w_ref_Split10 hx5) [2, 5] [2] rfl rfl rfl rfl rfl callee19 rfl rfl rfl rfl rfl) ?_
    rintro _ ⟨_, _, _, ⟨v8, rfl, rfl, rfl⟩, rfl⟩
    refine sMv rfl rfl rfl ?_
    refine Qa rfl (Qp rfl rfl rfl rfl rfl) ?_
    refine Qa rfl (Qp rfl rfl rfl rfl rfl) ?_
    refine sAs rfl rfl rfl ?_
    refine sAs rfl rfl rfl ?_
    refine Qc (tZ [1, 2, 4, 8, 11, 14, 12, 13, 16, 17, 18, 19] [0, 1, 2, 3, 4, 5, 6] [0, 1, 2, 3] rfl rfl rfl rfl ?_)
    refine Qe (Qe (Zm (by kernel_rfl) ?_))
    refine Yz [0, 0, 3, 7, 15, 31, 31, 127, 255, 511, 1023, 1023, 1023, 1023, 16383, 1023, 1023, 1023, 1023, 524287, 1048575, 2097151] (by kernel_rfl) fun htb => ?_
    refine Zi (lo := 0) (hi := 2) htb rfl rfl (by kernel_rfl) (fun c L a w => Sat c ⟨[(1, some vl1), (2, some (vI head)), (4, some (vB table)), (8, some (.pointer (some ⟨b1, 0, none⟩))), (11, some (vI (shli (1 : Int) ((u64 pick1).toNat)))), (14, some (.pointer (some ⟨b2, 0, none⟩))), (12, some (.pointer (some ⟨b3, 0, none⟩))), (13, some (.pointer (some ⟨b4, 0, none⟩))), (16, some v7), (17, some (vI split1.2)), (18, some v8), (19, some (vI split2.2)), (58, bif L 0 then some (v7) else none), (59, bif L 1 then some (v8) else none)], [(some (Ql b1 60 [vI pp3.At, vB pp3.Wrap]) : Option Res), (some (Ql b3 113 [v3, v4]) : Option Res), (some (Ql b4 152 [v5, v6]) : Option Res), (some (Ql b2 29 [vB laid1.2.2.1.Packed, vI laid1.2.2.1.Size, vU64 laid1.2.2.1.Desc, vU64 laid1.2.2.1.Driver, vU64 laid1.2.2.1.Device]) : Option Res), (some (QI u8S true v4 vs1 mem1.b none) : Option Res), (some (QI u8S false v6 vs2 mem2.B none) : Option Res), (some (rowS SegS v8 split2.1) : Option Res)], [Fact.sl Zl vl1 l, Fact.sl Qv v3 mem1.l, Fact.sl Qv v5 mem2.L, Fact.sl SegS v7 split1.1]⟩ a w) [([], []), ([], [])] rfl (by kernel_rfl) ?_ (Qd ?_ (Qd ?_ (QC))) ?_
    ·intro a w hs
     exact hs.startF [58, 59] [0, 1, 2, 3, 4, 5, 6] [0, 1, 2, 3] rfl rfl rfl rfl
    ·intro L a w hs K Q hK
     exact wGo rfl rfl hs (Qn rfl rfl rfl rfl) fun a w hs => hK a w (pF hs 12 [0, 1, 2, 3, 4, 5, 6] [0, 1, 2, 3] rfl)
    ·intro L a w hs K Q hK
     exact wGo rfl rfl hs (Qn rfl rfl rfl rfl) fun a w hs => hK a w (pF hs 13 [0, 1, 2, 3, 4, 5, 6] [0, 1, 2, 3] rfl)
    ·intro L a w hL hv
     rw [QT hL] at hv
     have hs := hv
     refine gZ hs [1, 2, 4, 8, 11, 14, 12, 13, 17, 19, 58, 59] [0, 1, 2, 3, 4, 5, 6] [0, 1, 2, 3] rfl rfl rfl rfl ?_
     clear hs hL
     obtain ⟨samese1, hx6, h⟩ := ob_e h
     refine TA_exP htb (by kernel_rfl) rfl rfl (ZU [6] [0, 1, 2, 3, 4, 5, 6] (w_kit_SameSegs hx6) [] rfl rfl rfl rfl rfl callee18 rfl rfl rfl rfl rfl rfl (Zu (bor_shr 3 rfl) (Zu (Yj 6 rfl rfl) Ye)) (by rintro _ _ _ ⟨rfl, rfl, rfl⟩; exact ⟨rfl, Ko⟩)) ?_
     rintro _ ⟨_, _, _, ⟨rfl, rfl, rfl⟩, rfl⟩
     refine QB htb (by kernel_rfl) rfl rfl (Xd rfl rfl rfl rfl) ?_
     refine QB htb (by kernel_rfl) rfl rfl (Qn rfl rfl rfl rfl) ?_
     refine aZ [1, 2, 4, 8, 11, 14, 12, 13, 17, 19, 62] [0, 1, 2, 3, 4, 5] [0, 1, 2] rfl rfl rfl rfl ?_
     obtain ⟨hg4, h⟩ := Xy h
     replace hg4 := not_t hg4
     refine Zi (lo := 5) (hi := 7) htb rfl rfl (by kernel_rfl) (fun c L a w => Sat c ⟨[(1, some vl1), (2, some (vI head)), (4, some (vB table)), (8, some (.pointer (some ⟨b1, 0, none⟩))), (11, some (vI (shli (1 : Int) ((u64 pick1).toNat)))), (14, some (.pointer (some ⟨b2, 0, none⟩))), (12, some (.pointer (some ⟨b3, 0, none⟩))), (13, some (.pointer (some ⟨b4, 0, none⟩))), (17, some (vI split1.2)), (19, some (vI split2.2)), (62, some (vB (!samese1))), (63, bif L 5 then some (vI split1.2) else none), (64, bif L 6 then some (vI split2.2) else none)], [(some (Ql b1 60 [vI pp3.At, vB pp3.Wrap]) : Option Res), (some (Ql b3 113 [v3, v4]) : Option Res), (some (Ql b4 152 [v5, v6]) : Option Res), (some (Ql b2 29 [vB laid1.2.2.1.Packed, vI laid1.2.2.1.Size, vU64 laid1.2.2.1.Desc, vU64 laid1.2.2.1.Driver, vU64 laid1.2.2.1.Device]) : Option Res), (some (QI u8S true v4 vs1 mem1.b none) : Option Res), (some (QI u8S false v6 vs2 mem2.B none) : Option Res)], [Fact.sl Zl vl1 l, Fact.sl Qv v3 mem1.l, Fact.sl Qv v5 mem2.L]⟩ a w) [([], []), ([], [])] rfl (by kernel_rfl) ?_ (Qd ?_ (Qd ?_ (QC))) ?_
     ·intro a w hs
      exact hs.startF [63, 64] [0, 1, 2, 3, 4, 5] [0, 1, 2] rfl rfl rfl rfl
     ·intro L a w hs K Q hK
      exact wYs rfl rfl rfl hs (cgb hg4) (Qn rfl rfl rfl rfl) fun a w hs => hK a w (pF hs 11 [0, 1, 2, 3, 4, 5] [0, 1, 2] rfl)
     ·intro L a w hs K Q hK
      exact wYs rfl rfl rfl hs (cgb hg4) (Qn rfl rfl rfl rfl) fun a w hs => hK a w (pF hs 12 [0, 1, 2, 3, 4, 5] [0, 1, 2] rfl)
     ·intro L a w hL hv
      rw [QT hL] at hv
      have hs := hv
      refine gZ hs [1, 2, 4, 8, 11, 14, 12, 13, 62, 63, 64] [0, 1, 2, 3, 4, 5] [0, 1, 2] rfl rfl rfl rfl ?_
      clear hs hL
      refine Xp htb (by kernel_rfl) rfl rfl rfl (cgb hg4) (Qg rfl rfl rfl rfl rfl (QN (a := split1.2) (b := split2.2))) ?_
      rintro _ rfl
      refine QB htb (by kernel_rfl) rfl rfl (Qu rfl rfl rfl (cgb hg4) rfl) ?_
      refine QB htb (by kernel_rfl) rfl rfl (Qn rfl rfl rfl rfl) ?_
      refine aZ [1, 2, 4, 8, 11, 14, 12, 13, 67] [0, 1, 2, 3, 4, 5] [0, 1, 2] rfl rfl rfl rfl ?_
      obtain ⟨hg5, h⟩ := Xy h
      replace hg5 := not_t hg5
      obtain ⟨reads1, hx7, h⟩ := ob_e h
      refine Zi (lo := 10) (hi := 19) htb rfl rfl (by kernel_rfl) (fun c L a w => Sat c ⟨[(1, some vl1), (2, some (vI head)), (4, some (vB table)), (8, some (.pointer (some ⟨b1, 0, none⟩))), (11, some (vI (shli (1 : Int) ((u64 pick1).toNat)))), (14, some (.pointer (some ⟨b2, 0, none⟩))), (12, some (.pointer (some ⟨b3, 0, none⟩))), (13, some (.pointer (some ⟨b4, 0, none⟩))), (67, some (vB (split1.2 != split2.2))), (68, bif L 10 then some (.pointer (some ⟨b3, 0, none⟩)) else none), (69, bif L 11 then some (.agg #[vB laid1.2.2.1.Packed, vI laid1.2.2.1.Size, vU64 laid1.2.2.1.Desc, vU64 laid1.2.2.1.Driver, vU64 laid1.2.2.1.Device]) else none), (70, bif L 12 then some (vI head) else none), (71, bif L 13 then some (vB table) else none), (72, bif L 14 then some (vI reads1) else none), (73, bif L 15 then some (.pointer (some ⟨b4, 0, none⟩)) else none), (74, bif L 16 then some (.agg #[vB laid1.2.2.1.Packed, vI laid1.2.2.1.Size, vU64 laid1.2.2.1.Desc, vU64 laid1.2.2.1.Driver, vU64 laid1.2.2.1.Device]) else none), (75, bif L 17 then some (vI head) else none), (76, bif L 18 then some (vB table) else none)], [(some (Ql b1 60 [vI pp3.At, vB pp3.Wrap]) : Option Res), (some (Ql b3 113 [v3, v4]) : Option Res), (some (Ql b4 152 [v5, v6]) : Option Res), (some (Ql b2 29 [vB laid1.2.2.1.Packed, vI laid1.2.2.1.Size, vU64 laid1.2.2.1.Desc, vU64 laid1.2.2.1.Driver, vU64 laid1.2.2.1.Device]) : Option Res), (some (QI u8S true v4 vs1 mem1.b none) : Option Res), (some (QI u8S false v6 vs2 mem2.B none) : Option Res)], [Fact.sl Zl vl1 l, Fact.sl Qv v3 mem1.l, Fact.sl Qv v5 mem2.L]⟩ a w) [([], [14]), ([], [14]), ([], [14]), ([], [14]), ([10, 11, 12, 13], []), ([], []), ([], []), ([], []), ([], [])] rfl (by kernel_rfl) ?_ (Qd ?_ (Qd ?_ (Qd ?_ (Qd ?_ (Qd ?_ (Qd ?_ (Qd ?_ (Qd ?_ (Qd ?_ (QC)))))))))) ?_
      ·intro a w hs
       exact hs.startF [68, 69, 70, 71, 72, 73, 74, 75, 76] [0, 1, 2, 3, 4, 5] [0, 1, 2] rfl rfl rfl rfl
      ·intro L a w hs K Q hK
       exact wYs rfl rfl rfl hs (cgb hg5) (Qn rfl rfl rfl rfl) fun a w hs => hK a w (pF hs 9 [0, 1, 2, 3, 4, 5] [0, 1, 2] rfl)
      ·intro L a w hs K Q hK
       exact wYs rfl rfl rfl hs (cgb hg5) (QA (vs := [vB laid1.2.2.1.Packed, vI laid1.2.2.1.Size, vU64 laid1.2.2.1.Desc, vU64 laid1.2.2.1.Driver, vU64 laid1.2.2.1.Device]) rfl rfl rfl rfl ZK (i := 3) rfl rfl rfl) fun a w hs => hK a w (pF hs 10 [0, 1, 2, 3, 4, 5] [0, 1, 2] rfl)
      ·intro L a w hs K Q hK
       exact wYs rfl rfl rfl hs (cgb hg5) (Qn rfl rfl rfl rfl) fun a w hs => hK a w (pF hs 11 [0, 1, 2, 3, 4, 5] [0, 1, 2] rfl)
      ·intro L a w hs K Q hK
       exact wYs rfl rfl rfl hs (cgb hg5) (Qn rfl rfl rfl rfl) fun a w hs => hK a w (pF hs 12 [0, 1, 2, 3, 4, 5] [0, 1, 2] rfl)
      ·intro L a w hs K Q hK
       refine ZO rfl rfl rfl hs (cgb hg5) (Qw [0, 6, 2, 3, 7, 5] (w_walk_Reads hx7) [1, 4] [1] rfl rfl rfl rfl rfl callee14 rfl rfl rfl rfl rfl) ?_
       rintro _ ⟨_, _, _, ⟨rfl, rfl, rfl⟩, rfl⟩ a' w' hs'
       exact hK a' w' (hs'.putF (i := 13) rfl [0, 1, 2, 3, 4, 5] [0, 1, 2] rfl rfl rfl rfl)
      ·intro L a w hs K Q hK
       exact wYs rfl rfl rfl hs (cgb hg5) (Qn rfl rfl rfl rfl) fun a w hs => hK a w (pF hs 14 [0, 1, 2, 3, 4, 5] [0, 1, 2] rfl)
      ·intro L a w hs K Q hK
       exact wYs rfl rfl rfl hs (cgb hg5) (QA (vs := [vB laid1.2.2.1.Packed, vI laid1.2.2.1.Size, vU64 laid1.2.2.1.Desc, vU64 laid1.2.2.1.Driver, vU64 laid1.2.2.1.Device]) rfl rfl rfl rfl ZK (i := 3) rfl rfl rfl) fun a w hs => hK a w (pF hs 15 [0, 1, 2, 3, 4, 5] [0, 1, 2] rfl)
      ·intro L a w hs K Q hK
       exact wYs rfl rfl rfl hs (cgb hg5) (Qn rfl rfl rfl rfl) fun a w hs => hK a w (pF hs 16 [0, 1, 2, 3, 4, 5] [0, 1, 2] rfl)
      ·intro L a w hs K Q hK
       exact wYs rfl rfl rfl hs (cgb hg5) (Qn rfl rfl rfl rfl) fun a w hs => hK a w (pF hs 17 [0, 1, 2, 3, 4, 5] [0, 1, 2] rfl)
      ·intro L a w hL hv
       rw [QT hL] at hv
       have hs := hv
       refine gZ hs [1, 2, 4, 8, 11, 14, 67, 72, 73, 74, 75, 76] [0, 2, 3, 5] [0, 2] rfl rfl rfl rfl ?_
       clear hs hL
       obtain ⟨reads2, hx8, h⟩ := ob_e h
       refine Xp htb (by kernel_rfl) rfl rfl rfl (cgb hg5) (Qw [0, 4, 2, 5] (w_ref_Reads10 hx8) [1, 3] [1] rfl rfl rfl rfl rfl callee20 rfl rfl rfl rfl rfl) ?_
       rintro _ ⟨_, _, _, ⟨rfl, rfl, rfl⟩, rfl⟩
       refine Xp htb (by kernel_rfl) rfl rfl rfl (cgb hg5) (Qg rfl rfl rfl rfl rfl (QN (a := reads1) (b := reads2))) ?_
       rintro _ rfl
       refine QB htb (by kernel_rfl) rfl rfl (Qu rfl rfl rfl (cgb hg5) rfl) ?_
       refine ZB rfl ?_
       refine tZ [1, 2, 4, 8, 11, 14, 79] [0, 2] [0] rfl rfl rfl rfl ?_
       obtain ⟨hg6, h⟩ := Xy h
       replace hg6 := not_t hg6
       refine Qo (cgb hg6) ?_
       refine Qs (Qe (Qb (sMv rfl rfl rfl ?_)))
       refine sMv rfl rfl rfl ?_
       refine sMv rfl rfl rfl ?_
       obtain ⟨pick2, hx9, h⟩ := ob_e h
       refine Qr rfl (QD (w_kit_Pick hx9) [] [] rfl rfl rfl rfl rfl callee9 rfl rfl rfl rfl) ?_
       rintro _ ⟨_, _, _, ⟨rfl, rfl, rfl⟩, rfl⟩
       refine Qa rfl (Qg rfl rfl rfl rfl rfl (Yy (a := shli (1 : Int) ((u64 pick1).toNat)) (b := pick2))) ?_
       refine sAs rfl rfl rfl ?_
       refine Qc (tZ [1, 4, 8, 14, 20] [0, 1] [0] rfl rfl rfl rfl ?_)
       refine Qe (Qb (sMv rfl rfl rfl ?_))
       refine sMv rfl rfl rfl ?_
       obtain ⟨laid2, hx10, h⟩ := ob_e h
       refine Qr rfl (QD (w_law10zlaid hx10) [] [0] rfl rfl rfl rfl rfl callee10 rfl rfl rfl rfl) ?_
       rintro _ ⟨_, _, _, ⟨v9, v10, rfl, rfl, rfl⟩, rfl⟩
       refine sMv rfl rfl rfl ?_
       refine Qa rfl (Qp rfl rfl rfl rfl rfl) ?_
       refine Qa rfl (Qp rfl rfl rfl rfl rfl) ?_
       refine Qa rfl (Qp rfl rfl rfl rfl rfl) ?_
       refine Qa rfl (Qp rfl rfl rfl rfl rfl) ?_
       refine sAs rfl rfl rfl ?_
       refine sAs rfl rfl rfl ?_
       refine Qa rfl (Qq (cs' := [vB laid2.2.2.1.Packed, vI laid2.2.2.1.Size, vU64 laid2.2.2.1.Desc, vU64 laid2.2.2.1.Driver, vU64 laid2.2.2.1.Device]) rfl rfl rfl rfl ZK (i := 1) rfl rfl rfl (QF rfl) rfl) ?_
       refine sAs rfl rfl rfl ?_
       refine Qc (tZ [4, 8, 14, 12, 13, 15] [0, 1, 2, 3] [] rfl rfl rfl rfl ?_)
       rcases YU h with ⟨ho3, h⟩ | ⟨mem3, ho3, h⟩
       ·cases h
       ·refine Tk_optS (i := 2) rfl ho3 ?_
        rintro b5 v11 v12 vs3 rfl
        rcases YU h with ⟨ho4, h⟩ | ⟨mem4, ho4, h⟩
        ·cases h
        ·refine Tk_optS (i := 3) rfl ho4 ?_
         rintro b6 v13 v14 vs4 rfl
         refine Qe (Qe (Qb (sMv rfl rfl rfl ?_)))
         refine Qa rfl (Xd rfl rfl rfl rfl) ?_
         refine Qc (tZ [4, 8, 14, 12, 13, 94] [0, 1, 2, 3, 4, 5] [0, 1] rfl rfl rfl rfl ?_)
         obtain ⟨hg7, h⟩ := Xy h
         replace hg7 := not_t hg7
         refine Qo (cgb hg7) ?_
         refine Qs (Qe (Qb (sMv rfl rfl rfl ?_)))
         refine Qa rfl (QA (vs := [vB laid2.2.2.1.Packed, vI laid2.2.2.1.Size, vU64 laid2.2.2.1.Desc, vU64 laid2.2.2.1.Driver, vU64 laid2.2.2.1.Device]) rfl rfl rfl rfl ZK (i := 1) rfl rfl rfl) ?_
         refine Qa rfl (QA (vs := [vI pp3.At, vB pp3.Wrap]) rfl rfl rfl rfl YK (i := 0) rfl rfl rfl) ?_
         refine sMv rfl rfl rfl ?_
         obtain ⟨packed1, hx11, h⟩ := ob_e h
         refine Qr rfl (Qw [0, 1, 6, 3, 7, 5] (w_walk_Packed hx11) [2, 4] [0] rfl rfl rfl rfl rfl callee17 rfl rfl rfl rfl rfl) ?_
         rintro _ ⟨_, _, _, ⟨v15, rfl, rfl, rfl⟩, rfl⟩
         refine sMv rfl rfl rfl ?_
         refine Qa rfl (Qp rfl rfl rfl rfl rfl) ?_
         refine Qa rfl (Qp rfl rfl rfl rfl rfl) ?_
         refine Qx rfl (QK rfl rfl rfl tyZ56) fun b7 => ?_
         refine Qa rfl (Xj (fun z0 => [vI packed1.1.ID, vI packed1.1.Count, z0]) (cs' := [vI packed1.1.ID, vI packed1.1.Count, v15]) rfl rfl rfl rfl Xx (i := 6) rfl (is_sl (i := 2) rfl) (fun _ _ _ => rfl) rfl rfl rfl) ?_
         refine sAs rfl rfl rfl ?_
         refine Qc (tZ [4, 8, 14, 13, 21, 17] [0, 1, 3, 5, 6] [1, 2] rfl rfl rfl rfl ?_)
         refine Qe (Qb (sMv rfl rfl rfl ?_))
         refine Qa rfl (QA (vs := [vB laid2.2.2.1.Packed, vI laid2.2.2.1.Size, vU64 laid2.2.2.1.Desc, vU64 laid2.2.2.1.Driver, vU64 laid2.2.2.1.Device]) rfl rfl rfl rfl ZK (i := 1) rfl rfl rfl) ?_
         refine Qa rfl (QA (vs := [vI pp3.At, vB pp3.Wrap]) rfl rfl rfl rfl YK (i := 0) rfl rfl rfl) ?_
         refine sMv rfl rfl rfl ?_
         obtain ⟨packed2, hx12, h⟩ := ob_e h
         refine Qr rfl (Qw [0, 1, 5, 6, 4, 7] (w_ref_Packed10 hx12) [2, 3] [0] rfl rfl rfl rfl rfl callee21 rfl rfl rfl rfl rfl) ?_
         rintro _ ⟨_, _, _, ⟨v16, rfl, rfl, rfl⟩, rfl⟩
         refine sMv rfl rfl rfl ?_
         refine Qa rfl (Qp rfl rfl rfl rfl rfl) ?_
         refine Qa rfl (Qp rfl rfl rfl rfl rfl) ?_
         refine Qx rfl (QK rfl rfl rfl tyZ56) fun b8 => ?_
         refine Qa rfl (Xj (fun z0 => [vI packed2.1.ID, vI packed2.1.Count, z0]) (cs' := [vI packed2.1.ID, vI packed2.1.Count, v16]) rfl rfl rfl rfl Xx (i := 6) rfl (Kx (i := 5) rfl) (fun _ _ _ => rfl) rfl rfl rfl) ?_
         refine sAs rfl rfl rfl ?_
         refine Qc (tZ [21, 17, 22, 19] [4, 5, 6] [1] rfl rfl rfl rfl ?_)
         refine Qe (Qb (Qa rfl (QA (vs := [vI packed1.1.ID, vI packed1.1.Count, v15]) rfl rfl rfl rfl Xx (i := 0) rfl rfl rfl) ?_))
         refine Qa rfl (QA (vs := [vI packed2.1.ID, vI packed2.1.Count, v16]) rfl rfl rfl rfl Xx (i := 2) rfl rfl rfl) ?_
         obtain ⟨taken1, hx13, h⟩ := ob_e h
         refine Qr rfl (ZU [1] [0, 1, 2] (w_kit_Taken hx13) [] rfl rfl rfl rfl rfl callee22 rfl rfl rfl rfl rfl rfl (Zu (bor_shr 0 rfl) (Zu (Yj 1 rfl rfl) Ye)) (by rintro _ _ _ ⟨rfl, rfl, rfl⟩; exact ⟨rfl, Ko⟩)) ?_
         rintro _ ⟨_, _, _, ⟨rfl, rfl, rfl⟩, rfl⟩
         refine sMv rfl rfl rfl ?_
         obtain ⟨hg8, h⟩ := Xy h
         refine Qh rfl rfl (cgb hg8) (Qn rfl rfl rfl rfl) ?_
         rintro _ rfl
         refine Qh rfl rfl (cgb hg8) (Qn rfl rfl rfl rfl) ?_
         rintro _ rfl
         refine Qh rfl rfl (cgb hg8) (Qg rfl rfl rfl rfl rfl (Zg (a := packed1.2) (b := packed2.2))) ?_
         rintro _ rfl
         refine Qa rfl (Qt rfl rfl rfl (cgb hg8) rfl) ?_
         refine sAs rfl rfl rfl ?_
         refine Qc (tZ [10] [] [] rfl rfl rfl rfl ?_)
         obtain ⟨hg9, h⟩ := Xy h
         exact Qm rfl rfl (resA (vs := [.bool true]) rfl ⟨(cgb hg9), trivial⟩) [] [] rfl rfl rfl ⟨rfl, rfl, rfl⟩
end Go.Proofs.Ytlofegfaphijpaa
