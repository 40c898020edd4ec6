/- The functions do what the plain words say: each is walked once. No statement of the seat is proved here; no condition. -/
import Derived.Test.YtgcbcnpbnonnjaaWa3
namespace Go.Proofs.Ytgcbcnpbnonnjaa
attribute [local irreducible] sub
set_option maxRecDepth 100000 in
set_option maxHeartbeats 4000000 in
theorem w_frame_word {b : List UInt8} {vb1 : Value} {r : UInt16} (h : Ka b = some r) :
  Ctr Try.prog 69 #[vb1] [] [Fact.sl u8S vb1 b]
   (fun rv own shr => rv = vU16 r ∧ own = [] ∧ shr = []) := by
 unfold Ka at h
 refine Ctr.mk (args := [vb1]) Try.func69 rfl rfl (fun R0 w0 B => ?_)
 refine Qe (Qb (sAs rfl rfl rfl ?_))
 refine nW [(0, some vb1)] [] [Fact.sl u8S vb1 b] [0] [] [0] rfl ?_
 refine Qe (Zw (by kernel_rfl) ?_)
 refine TA_tb [0, 1, 3, 7, 15, 0, 32, 96, 224, 511, 1023] (by kernel_rfl) fun htb => ?_
 obtain ⟨y1, hx1, h⟩ := ob_e h
 obtain ⟨y2, hx2, h⟩ := ob_e h
 refine Zs (lo := 0) (hi := 9) htb rfl rfl (by kernel_rfl) (fun c L a w => ∃ (p1 : Value), ∃ (p2 : Value), Sat c ⟨[(0, some vb1), (3, bif L 0 then some (vb1) else none), (4, bif L 1 then some (p1) else none), (5, bif L 2 then some (vU8 y1) else none), (6, bif L 3 then some (vU16 y1.toUInt16) else none), (7, bif L 4 then some (vU16 (shl16 y1.toUInt16 ((8 : UInt64).toNat))) else none), (8, bif L 5 then some (vb1) else none), (9, bif L 6 then some (p2) else none), (10, bif L 7 then some (vU8 y2) else none), (11, bif L 8 then some (vU16 y2.toUInt16) else none)], [], [Fact.sl u8S vb1 b, (bif L 1 then Fact.pt u8S p1 y1 else Fact.tt), (bif L 6 then Fact.pt u8S p2 y2 else Fact.tt)]⟩ a w) [([], [1, 2, 3, 4]), ([0], [2, 3, 4]), ([0, 1], [3, 4]), ([0, 1, 2], [4]), ([0, 1, 2, 3], []), ([], [6, 7, 8]), ([5], [7, 8]), ([5, 6], [8]), ([5, 6, 7], [])] rfl (by kernel_rfl) ?_ (Qc ?_ (Qc ?_ (Qc ?_ (Qc ?_ (Qc ?_ (Qc ?_ (Qc ?_ (Qc ?_ (Qc ?_ (QH)))))))))) ?_
 ·intro a w hs
  exact ⟨undef, undef, hs.startF [3, 4, 5, 6, 7, 8, 9, 10, 11] [] [0, 1, 2] rfl rfl rfl rfl⟩
 ·intro L a w hv K Q hK
  obtain ⟨p1, p2, hs⟩ := hv
  exact wGo rfl rfl hs (Qk rfl rfl rfl rfl) fun a w hs => hK a w ⟨p1, p2, pF hs 1 [] [0, 1, 2] rfl⟩
 ·intro L a w hv K Q hK
  obtain ⟨p1, p2, hs⟩ := hv
  refine QG rfl rfl hs (QA rfl rfl rfl rfl rfl Xg (i := 0) rfl hx1) ?_
  rintro _ ⟨p1', rfl⟩ a' w' hs'
  exact hK a' w' ⟨p1', p2, hs'.putF (i := 2) rfl [] [0, 3, 2] rfl rfl rfl rfl⟩
 ·intro L a w hv K Q hK
  obtain ⟨p1, p2, hs⟩ := hv
  exact wGo rfl rfl hs (QC rfl rfl rfl rfl tyF5 (i := 1) rfl rfl) fun a w hs => hK a w ⟨p1, p2, pF hs 3 [] [0, 1, 2] rfl⟩
 ·intro L a w hv K Q hK
  obtain ⟨p1, p2, hs⟩ := hv
  exact wGo rfl rfl hs (QM rfl rfl rfl rfl (cnv_u8_u16 (n := y1) Try.underlying5 Try.underlying34)) fun a w hs => hK a w ⟨p1, p2, pF hs 4 [] [0, 1, 2] rfl⟩
 ·intro L a w hv K Q hK
  obtain ⟨p1, p2, hs⟩ := hv
  exact wGo rfl rfl hs (Qg rfl rfl rfl rfl rfl (bin_shl_u16_u64 (a := y1.toUInt16) (n := (8 : UInt64)))) fun a w hs => hK a w ⟨p1, p2, pF hs 5 [] [0, 1, 2] rfl⟩
 ·intro L a w hv K Q hK
  obtain ⟨p1, p2, hs⟩ := hv
  exact wGo rfl rfl hs (Qk rfl rfl rfl rfl) fun a w hs => hK a w ⟨p1, p2, pF hs 6 [] [0, 1, 2] rfl⟩
 ·intro L a w hv K Q hK
  obtain ⟨p1, p2, hs⟩ := hv
  refine QG rfl rfl hs (QA rfl rfl rfl rfl rfl Xg (i := 0) rfl hx2) ?_
  rintro _ ⟨p2', rfl⟩ a' w' hs'
  exact hK a' w' ⟨p1, p2', hs'.putF (i := 7) rfl [] [0, 1, 3] rfl rfl rfl rfl⟩
 ·intro L a w hv K Q hK
  obtain ⟨p1, p2, hs⟩ := hv
  exact wGo rfl rfl hs (QC rfl rfl rfl rfl tyF5 (i := 2) rfl rfl) fun a w hs => hK a w ⟨p1, p2, pF hs 8 [] [0, 1, 2] rfl⟩
 ·intro L a w hv K Q hK
  obtain ⟨p1, p2, hs⟩ := hv
  exact wGo rfl rfl hs (QM rfl rfl rfl rfl (cnv_u8_u16 (n := y2) Try.underlying5 Try.underlying34)) fun a w hs => hK a w ⟨p1, p2, pF hs 9 [] [0, 1, 2] rfl⟩
 ·intro L a w hL hv
  rw [QZ hL] at hv
  obtain ⟨p1, p2, hs⟩ := hv
  refine (show TA _ _ _ 9 ⟨[(7, some (vU16 (shl16 y1.toUInt16 ((8 : UInt64).toNat)))), (11, some (vU16 y2.toUInt16))], [], []⟩ from ?_) a w (hs.wkS [7, 11] [] [] rfl rfl rfl rfl)
  clear hs hL
  refine QL htb (by kernel_rfl) rfl rfl (Qg rfl rfl rfl rfl rfl (bin_or_u16 (a := shl16 y1.toUInt16 ((8 : UInt64).toNat)) (b := y2.toUInt16))) ?_
  refine QL htb (by kernel_rfl) rfl rfl (Zh rfl rfl rfl rfl) ?_
  refine ZW rfl ?_
  refine tW [(2, some (vU16 ((shl16 y1.toUInt16 ((8 : UInt64).toNat)) ||| y2.toUInt16)))] [] [] [2] [] [] rfl ?_
  obtain rfl := Option.some.inj h
  exact Qn rfl rfl (resA (vs := [vU16 ((shl16 y1.toUInt16 ((8 : UInt64).toNat)) ||| y2.toUInt16)]) rfl ⟨rfl, trivial⟩) [] [] rfl rfl rfl ⟨rfl, rfl, rfl⟩

set_option maxRecDepth 100000 in
set_option maxHeartbeats 4000000 in
theorem Kf {sp0 : List UInt8} {vsp01 : Value} {r : (List UInt8)} (h : Zg sp0 = some r) :
  Ctr Try.prog 70 #[vsp01] [] [Fact.sl u8S vsp01 sp0]
   (fun rv own shr => ∃ (w1 : Value), rv = w1 ∧ own = [(rowS u8S w1 r)] ∧ shr = []) := by
 unfold Zg at h
 refine Ctr.mk (args := [vsp01]) Try.func70 rfl rfl (fun R0 w0 B => ?_)
 refine Qe (Qb (sAs rfl rfl rfl ?_))
 refine nW [(0, some vsp01)] [] [Fact.sl u8S vsp01 sp0] [0] [] [0] rfl ?_
 refine Qe (Qe (Qb (sMv rfl rfl rfl ?_)))
 refine Qt rfl (OpT_eqNil rfl rfl rfl (.inl rfl) rfl rfl Try.underlying35 (i := 0) rfl) ?_
 rintro _ ⟨q1, hq1, rfl⟩
 refine nW [(0, some vsp01), (4, some (vB q1))] [] [Fact.sl u8S vsp01 sp0] [0, 4] [] [0] rfl ?_
 rcases bC q1 with hg1 | hg1
 ·obtain rfl := hq1 hg1
  replace h : some ([] : List UInt8) = some r := h
  refine Ql (cgb hg1) ?_
  refine Qe (Qb (sAs rfl rfl rfl ?_))
  refine nW [(2, some (.slice none 0 0))] [] [] [2] [] [] rfl ?_
  refine QI u8S ?_
  obtain rfl := Option.some.inj h
  exact Qn rfl rfl (resA (vs := [.slice none 0 0]) rfl ⟨rfl, trivial⟩) [0] [] rfl rfl rfl ⟨(.slice none 0 0), rfl, rfl, rfl⟩
 ·refine Qm (cgb hg1) ?_
  refine Qr (Qe (Qb (Qq rfl (QF (S := u8S) (xs := ([] : List UInt8)) (css := []) (cs := []) (e := 5) rfl rfl rfl rfl (bldF Xg (by decide) (by kernel_rfl)) rfl rfl rfl rfl (Ze (S := u8S) (xs := ([] : List UInt8)) (css := []) rfl rfl)) fun v1 => ?_)))
  refine sMv rfl rfl rfl ?_
  obtain ⟨hc1, h⟩ := Zi h
  refine Qq rfl (ZS rfl rfl rfl rfl rfl Xg (i := 0) (j := 0) rfl rfl hc1) fun v2 => ?_
  refine sAs rfl rfl rfl ?_
  refine nW [(2, some v2)] [some (rowS u8S v2 sp0)] [] [2] [0] [] rfl ?_
  obtain rfl := Option.some.inj h
  exact Qn rfl rfl (resA (vs := [v2]) rfl ⟨rfl, trivial⟩) [0] [] rfl rfl rfl ⟨v2, rfl, rfl, rfl⟩

set_option maxRecDepth 100000 in
set_option maxHeartbeats 4000000 in
theorem w_frame_Read {b : List UInt8} {vb1 : Value} {r : (Frame × Int)} (h : XB b = some r) :
  Ctr Try.prog 56 #[vb1] [] [Fact.sl u8S vb1 b]
   (fun rv own shr => ∃ (w1 : Value), rv = .tuple #[.agg #[vU8 r.1.Dst.a0, vU8 r.1.Dst.a1, vU8 r.1.Dst.a2, vU8 r.1.Dst.a3, vU8 r.1.Dst.a4, vU8 r.1.Dst.a5, vU8 r.1.Src.a0, vU8 r.1.Src.a1, vU8 r.1.Src.a2, vU8 r.1.Src.a3, vU8 r.1.Src.a4, vU8 r.1.Src.a5, vI r.1.Vlan, vU16 r.1.Type_, w1], vI r.2] ∧ own = [(rowS u8S w1 r.1.Data)] ∧ shr = []) := by
 unfold XB at h
 refine Ctr.mk (args := [vb1]) Try.func56 rfl rfl (fun R0 w0 B => ?_)
 refine Qe (Qb (Qq rfl (Zq rfl rfl rfl tyZ37) fun b1 => ?_))
 refine sAs rfl rfl rfl ?_
 refine nW [(0, some vb1), (2, some (.pointer (some ⟨b1, 0, none⟩)))] [some (Qd b1 37 [vU8 (0 : UInt8), vU8 (0 : UInt8), vU8 (0 : UInt8), vU8 (0 : UInt8), vU8 (0 : UInt8), vU8 (0 : UInt8), vU8 (0 : UInt8), vU8 (0 : UInt8), vU8 (0 : UInt8), vU8 (0 : UInt8), vU8 (0 : UInt8), vU8 (0 : UInt8), vI (0 : Int), vU16 (0 : UInt16), .slice none 0 0])] [Fact.sl u8S vb1 b] [0, 2] [0] [0] rfl ?_
 refine Qe (Qe (Qb (sMv rfl rfl rfl ?_)))
 refine Qa rfl (QB rfl rfl rfl rfl Try.underlying35 (i := 0) rfl) ?_
 refine Qa rfl (Qg rfl rfl rfl rfl rfl (QK (a := len b) (b := (14 : Int)))) ?_
 refine nW [(0, some vb1), (2, some (.pointer (some ⟨b1, 0, none⟩))), (8, some (vB (decide ((len b) < (14 : Int)))))] [some (Qd b1 37 [vU8 (0 : UInt8), vU8 (0 : UInt8), vU8 (0 : UInt8), vU8 (0 : UInt8), vU8 (0 : UInt8), vU8 (0 : UInt8), vU8 (0 : UInt8), vU8 (0 : UInt8), vU8 (0 : UInt8), vU8 (0 : UInt8), vU8 (0 : UInt8), vU8 (0 : UInt8), vI (0 : Int), vU16 (0 : UInt16), .slice none 0 0])] [Fact.sl u8S vb1 b] [0, 2, 8] [0] [0] rfl ?_
 rcases bC (decide ((len b) < (14 : Int))) with hg1 | hg1
 ·replace h := br_t hg1 h
  refine Ql (cgb hg1) ?_
  refine Qe (Qb (Qa rfl (Zd (v := .agg #[vU8 (0 : UInt8), vU8 (0 : UInt8), vU8 (0 : UInt8), vU8 (0 : UInt8), vU8 (0 : UInt8), vU8 (0 : UInt8), vU8 (0 : UInt8), vU8 (0 : UInt8), vU8 (0 : UInt8), vU8 (0 : UInt8), vU8 (0 : UInt8), vU8 (0 : UInt8), vI (0 : Int), vU16 (0 : UInt16), .slice none 0 0]) rfl rfl rfl rfl (bldV (by kernel_rfl))) ?_))
  refine Qa rfl (QE (cs' := [vU8 (0 : UInt8), vU8 (0 : UInt8), vU8 (0 : UInt8), vU8 (0 : UInt8), vU8 (0 : UInt8), vU8 (0 : UInt8), vU8 (0 : UInt8), vU8 (0 : UInt8), vU8 (0 : UInt8), vU8 (0 : UInt8), vU8 (0 : UInt8), vU8 (0 : UInt8), vI (0 : Int), vU16 (0 : UInt16), .slice none 0 0]) rfl rfl rfl rfl Xo (i := 0) rfl rfl rfl (ZE rfl) rfl) ?_
  refine sAs rfl rfl rfl ?_
  refine nW [(2, some (.pointer (some ⟨b1, 0, none⟩))), (3, some (vI (4 : Int)))] [some (Qd b1 37 [vU8 (0 : UInt8), vU8 (0 : UInt8), vU8 (0 : UInt8), vU8 (0 : UInt8), vU8 (0 : UInt8), vU8 (0 : UInt8), vU8 (0 : UInt8), vU8 (0 : UInt8), vU8 (0 : UInt8), vU8 (0 : UInt8), vU8 (0 : UInt8), vU8 (0 : UInt8), vI (0 : Int), vU16 (0 : UInt16), .slice none 0 0])] [] [2, 3] [0] [] rfl ?_
  refine QI u8S ?_
  obtain rfl := Option.some.inj h
  exact Qn rfl rfl (resA (vs := [.agg #[vU8 (0 : UInt8), vU8 (0 : UInt8), vU8 (0 : UInt8), vU8 (0 : UInt8), vU8 (0 : UInt8), vU8 (0 : UInt8), vU8 (0 : UInt8), vU8 (0 : UInt8), vU8 (0 : UInt8), vU8 (0 : UInt8), vU8 (0 : UInt8), vU8 (0 : UInt8), vI (0 : Int), vU16 (0 : UInt16), .slice none 0 0], vI (4 : Int)]) rfl ⟨⟨_, 0, _, _, _, rfl, rfl, .inl ⟨Xo, rfl, rfl⟩⟩, rfl, trivial⟩) [1] [] rfl rfl rfl ⟨(.slice none 0 0), rfl, rfl, rfl⟩
 ·replace h := br_f hg1 h
  refine Qm (cgb hg1) ?_
  refine Qr (Qe (Zw (by kernel_rfl) ?_))
  refine TA_tb [0, 1, 3, 7, 0, 16, 48, 112, 255, 0, 1023] (by kernel_rfl) fun htb => ?_
  refine Xy (fr' := [(0, some vb1), (2, some (.pointer (some ⟨b1, 0, none⟩)))]) (own' := [some (Qd b1 37 [vU8 (0 : UInt8), vU8 (0 : UInt8), vU8 (0 : UInt8), vU8 (0 : UInt8), vU8 (0 : UInt8), vU8 (0 : UInt8), vU8 (0 : UInt8), vU8 (0 : UInt8), vU8 (0 : UInt8), vU8 (0 : UInt8), vU8 (0 : UInt8), vU8 (0 : UInt8), vI (0 : Int), vU16 (0 : UInt16), .slice none 0 0])]) (shr' := [Fact.sl u8S vb1 b]) [0, 2] [0] [0] rfl rfl rfl rfl ?_
  obtain ⟨hc1, h⟩ := Zi h
  obtain ⟨hc2, h⟩ := Zi h
  obtain ⟨a1, ha1, h⟩ := ob_e h
  obtain ⟨hc3, h⟩ := Zi h
  obtain ⟨hc4, h⟩ := Zi h
  obtain ⟨a2, ha2, h⟩ := ob_e h
  refine Zs (lo := 0) (hi := 10) htb rfl rfl (by kernel_rfl) (fun c L a w => ∃ (v1 : Value), ∃ (p1 : Value), ∃ (v2 : Value), ∃ (p2 : Value), ∃ (b2 : Nat), Sat c ⟨[(0, some vb1), (2, some (.pointer (some ⟨b1, 0, none⟩))), (10, bif L 0 then some (vb1) else none), (11, bif L 1 then some (v1) else none), (12, bif L 2 then some (p1) else none), (13, bif L 3 then some (.agg #[vU8 a1.a0, vU8 a1.a1, vU8 a1.a2, vU8 a1.a3, vU8 a1.a4, vU8 a1.a5]) else none), (14, bif L 4 then some (vb1) else none), (15, bif L 5 then some (v2) else none), (16, bif L 6 then some (p2) else none), (17, bif L 7 then some (.agg #[vU8 a2.a0, vU8 a2.a1, vU8 a2.a2, vU8 a2.a3, vU8 a2.a4, vU8 a2.a5]) else none), (18, bif L 8 then some (.agg #[vU8 a1.a0, vU8 a1.a1, vU8 a1.a2, vU8 a1.a3, vU8 a1.a4, vU8 a1.a5, vU8 a2.a0, vU8 a2.a1, vU8 a2.a2, vU8 a2.a3, vU8 a2.a4, vU8 a2.a5, vI ((-1) : Int), vU16 (0 : UInt16), .slice none 0 0]) else none), (4, bif L 9 then some (.pointer (some ⟨b2, 0, none⟩)) else none)], [(some (Qd b1 37 [vU8 (0 : UInt8), vU8 (0 : UInt8), vU8 (0 : UInt8), vU8 (0 : UInt8), vU8 (0 : UInt8), vU8 (0 : UInt8), vU8 (0 : UInt8), vU8 (0 : UInt8), vU8 (0 : UInt8), vU8 (0 : UInt8), vU8 (0 : UInt8), vU8 (0 : UInt8), vI (0 : Int), vU16 (0 : UInt16), .slice none 0 0]) : Option Res), (bif L 9 then some (Qd b2 37 [vU8 (0 : UInt8), vU8 (0 : UInt8), vU8 (0 : UInt8), vU8 (0 : UInt8), vU8 (0 : UInt8), vU8 (0 : UInt8), vU8 (0 : UInt8), vU8 (0 : UInt8), vU8 (0 : UInt8), vU8 (0 : UInt8), vU8 (0 : UInt8), vU8 (0 : UInt8), vI (0 : Int), vU16 (0 : UInt16), .slice none 0 0]) else none : Option Res)], [Fact.sl u8S vb1 b, (bif L 1 then Fact.sl u8S v1 (sub b (0 : Int) (6 : Int)) else Fact.tt), (bif L 2 then Fact.arr u8S p1 6 ((sub b (0 : Int) (6 : Int)).take 6) else Fact.tt), (bif L 5 then Fact.sl u8S v2 (sub b (6 : Int) (12 : Int)) else Fact.tt), (bif L 6 then Fact.arr u8S p2 6 ((sub b (6 : Int) (12 : Int)).take 6) else Fact.tt)]⟩ a w) [([], [1, 2, 3, 8]), ([0], [2, 3, 8]), ([0, 1], [3, 8]), ([0, 1, 2], [8]), ([], [5, 6, 7, 8]), ([4], [6, 7, 8]), ([4, 5], [7, 8]), ([4, 5, 6], [8]), ([0, 1, 2, 3, 4, 5, 6, 7], []), ([], [])] rfl (by kernel_rfl) ?_ (Qc ?_ (Qc ?_ (Qc ?_ (Qc ?_ (Qc ?_ (Qc ?_ (Qc ?_ (Qc ?_ (Qc ?_ (Qc ?_ (QH))))))))))) ?_
  ·intro a w hs
   exact ⟨undef, undef, undef, undef, 0, hs.startF [10, 11, 12, 13, 14, 15, 16, 17, 18, 4] [0, 1] [0, 1, 2, 3, 4] rfl rfl rfl rfl⟩
  ·intro L a w hv K Q hK
   obtain ⟨v1, p1, v2, p2, b2, hs⟩ := hv
   exact wGo rfl rfl hs (Qk rfl rfl rfl rfl) fun a w hs => hK a w ⟨v1, p1, v2, p2, b2, pF hs 2 [0, 1] [0, 1, 2, 3, 4] rfl⟩
  ·intro L a w hv K Q hK
   obtain ⟨v1, p1, v2, p2, b2, hs⟩ := hv
   refine QG rfl rfl hs (OpT_sliceH (m := (6 : Int)) rfl rfl rfl rfl rfl Xg (i := 0) rfl hc1) ?_
   rintro _ ⟨v1', rfl⟩ a' w' hs'
   exact hK a' w' ⟨v1', p1, v2, p2, b2, hs'.putF (i := 3) rfl [0, 1] [0, 5, 2, 3, 4] rfl rfl rfl rfl⟩
  ·intro L a w hv K Q hK
   obtain ⟨v1, p1, v2, p2, b2, hs⟩ := hv
   refine QG rfl rfl hs (OpT_toArr rfl rfl rfl rfl arrF33 (i := 1) rfl hc2 rfl) ?_
   rintro _ ⟨p1', rfl⟩ a' w' hs'
   exact hK a' w' ⟨v1, p1', v2, p2, b2, hs'.putF (i := 4) rfl [0, 1] [0, 1, 5, 3, 4] rfl rfl rfl rfl⟩
  ·intro L a w hv K Q hK
   obtain ⟨v1, p1, v2, p2, b2, hs⟩ := hv
   exact wGo rfl rfl hs (OpT_loadArrE u8S rfl (f := vU8) (fun _ => rfl) rfl rfl rfl rfl tyF33 (i := 2) rfl rfl (A6.ofL_eq ha1) rfl) fun a w hs => hK a w ⟨v1, p1, v2, p2, b2, pF hs 5 [0, 1] [0, 1, 2, 3, 4] rfl⟩
  ·intro L a w hv K Q hK
   obtain ⟨v1, p1, v2, p2, b2, hs⟩ := hv
   exact wGo rfl rfl hs (Qk rfl rfl rfl rfl) fun a w hs => hK a w ⟨v1, p1, v2, p2, b2, pF hs 6 [0, 1] [0, 1, 2, 3, 4] rfl⟩
  ·intro L a w hv K Q hK
   obtain ⟨v1, p1, v2, p2, b2, hs⟩ := hv
   refine QG rfl rfl hs (OpT_sliceLH (l := (6 : Int)) (m := (12 : Int)) rfl rfl rfl rfl rfl rfl Xg (i := 0) rfl hc3) ?_
   rintro _ ⟨v2', rfl⟩ a' w' hs'
   exact hK a' w' ⟨v1, p1, v2', p2, b2, hs'.putF (i := 7) rfl [0, 1] [0, 1, 2, 5, 4] rfl rfl rfl rfl⟩
  ·intro L a w hv K Q hK
   obtain ⟨v1, p1, v2, p2, b2, hs⟩ := hv
   refine QG rfl rfl hs (OpT_toArr rfl rfl rfl rfl arrF33 (i := 3) rfl hc4 rfl) ?_
   rintro _ ⟨p2', rfl⟩ a' w' hs'
   exact hK a' w' ⟨v1, p1, v2, p2', b2, hs'.putF (i := 8) rfl [0, 1] [0, 1, 2, 3, 5] rfl rfl rfl rfl⟩
  ·intro L a w hv K Q hK
   obtain ⟨v1, p1, v2, p2, b2, hs⟩ := hv
   exact wGo rfl rfl hs (OpT_loadArrE u8S rfl (f := vU8) (fun _ => rfl) rfl rfl rfl rfl tyF33 (i := 4) rfl rfl (A6.ofL_eq ha2) rfl) fun a w hs => hK a w ⟨v1, p1, v2, p2, b2, pF hs 9 [0, 1] [0, 1, 2, 3, 4] rfl⟩
  ·intro L a w hv K Q hK
   obtain ⟨v1, p1, v2, p2, b2, hs⟩ := hv
   exact wGo rfl rfl hs (Zd (v := .agg #[vU8 a1.a0, vU8 a1.a1, vU8 a1.a2, vU8 a1.a3, vU8 a1.a4, vU8 a1.a5, vU8 a2.a0, vU8 a2.a1, vU8 a2.a2, vU8 a2.a3, vU8 a2.a4, vU8 a2.a5, vI ((-1) : Int), vU16 (0 : UInt16), .slice none 0 0]) rfl rfl rfl rfl (bldV (by kernel_rfl))) fun a w hs => hK a w ⟨v1, p1, v2, p2, b2, pF hs 10 [0, 1] [0, 1, 2, 3, 4] rfl⟩
  ·intro L a w hv K Q hK
   obtain ⟨v1, p1, v2, p2, b2, hs⟩ := hv
   refine QG rfl rfl hs (Zq rfl rfl rfl tyZ37) ?_
   rintro _ ⟨b2', rfl⟩ a' w' hs'
   exact hK a' w' ⟨v1, p1, v2, p2, b2', hs'.putF (i := 11) rfl [0, 2] [0, 1, 2, 3, 4] rfl rfl rfl rfl⟩
  ·intro L a w hL hv
   rw [QZ hL] at hv
   obtain ⟨v1, p1, v2, p2, b2, hs⟩ := hv
   refine (show TA _ _ _ 10 ⟨[(0, some vb1), (2, some (.pointer (some ⟨b1, 0, none⟩))), (18, some (.agg #[vU8 a1.a0, vU8 a1.a1, vU8 a1.a2, vU8 a1.a3, vU8 a1.a4, vU8 a1.a5, vU8 a2.a0, vU8 a2.a1, vU8 a2.a2, vU8 a2.a3, vU8 a2.a4, vU8 a2.a5, vI ((-1) : Int), vU16 (0 : UInt16), .slice none 0 0])), (4, some (.pointer (some ⟨b2, 0, none⟩)))], [some (Qd b1 37 [vU8 (0 : UInt8), vU8 (0 : UInt8), vU8 (0 : UInt8), vU8 (0 : UInt8), vU8 (0 : UInt8), vU8 (0 : UInt8), vU8 (0 : UInt8), vU8 (0 : UInt8), vU8 (0 : UInt8), vU8 (0 : UInt8), vU8 (0 : UInt8), vU8 (0 : UInt8), vI (0 : Int), vU16 (0 : UInt16), .slice none 0 0]), some (Qd b2 37 [vU8 (0 : UInt8), vU8 (0 : UInt8), vU8 (0 : UInt8), vU8 (0 : UInt8), vU8 (0 : UInt8), vU8 (0 : UInt8), vU8 (0 : UInt8), vU8 (0 : UInt8), vU8 (0 : UInt8), vU8 (0 : UInt8), vU8 (0 : UInt8), vU8 (0 : UInt8), vI (0 : Int), vU16 (0 : UInt16), .slice none 0 0])], [Fact.sl u8S vb1 b]⟩ from ?_) a w (hs.wkS [0, 2, 18, 4] [0, 1] [0] rfl rfl rfl rfl)
   clear hs hL
   refine QL htb (by kernel_rfl) rfl rfl (QE (cs' := [vU8 a1.a0, vU8 a1.a1, vU8 a1.a2, vU8 a1.a3, vU8 a1.a4, vU8 a1.a5, vU8 a2.a0, vU8 a2.a1, vU8 a2.a2, vU8 a2.a3, vU8 a2.a4, vU8 a2.a5, vI ((-1) : Int), vU16 (0 : UInt16), .slice none 0 0]) rfl rfl rfl rfl Xo (i := 1) rfl rfl rfl (ZE rfl) rfl) ?_
   refine ZW rfl ?_
   refine tW [(0, some vb1), (2, some (.pointer (some ⟨b1, 0, none⟩))), (4, some (.pointer (some ⟨b2, 0, none⟩)))] [some (Qd b1 37 [vU8 (0 : UInt8), vU8 (0 : UInt8), vU8 (0 : UInt8), vU8 (0 : UInt8), vU8 (0 : UInt8), vU8 (0 : UInt8), vU8 (0 : UInt8), vU8 (0 : UInt8), vU8 (0 : UInt8), vU8 (0 : UInt8), vU8 (0 : UInt8), vU8 (0 : UInt8), vI (0 : Int), vU16 (0 : UInt16), .slice none 0 0]), some (Qd b2 37 [vU8 a1.a0, vU8 a1.a1, vU8 a1.a2, vU8 a1.a3, vU8 a1.a4, vU8 a1.a5, vU8 a2.a0, vU8 a2.a1, vU8 a2.a2, vU8 a2.a3, vU8 a2.a4, vU8 a2.a5, vI ((-1) : Int), vU16 (0 : UInt16), .slice none 0 0])] [Fact.sl u8S vb1 b] [0, 2, 4] [0, 1] [0] rfl ?_
   refine Qe (Qb (sMv rfl rfl rfl ?_))
   obtain ⟨hc5, h⟩ := Zi h
   refine Qq rfl (XQ (l := (12 : Int)) rfl rfl rfl rfl rfl Xg (i := 0) rfl hc5) fun v3 => ?_
   refine sAs rfl rfl rfl ?_
   refine nW [(2, some (.pointer (some ⟨b1, 0, none⟩))), (4, some (.pointer (some ⟨b2, 0, none⟩))), (5, some v3)] [some (Qd b1 37 [vU8 (0 : UInt8), vU8 (0 : UInt8), vU8 (0 : UInt8), vU8 (0 : UInt8), vU8 (0 : UInt8), vU8 (0 : UInt8), vU8 (0 : UInt8), vU8 (0 : UInt8), vU8 (0 : UInt8), vU8 (0 : UInt8), vU8 (0 : UInt8), vU8 (0 : UInt8), vI (0 : Int), vU16 (0 : UInt16), .slice none 0 0]), some (Qd b2 37 [vU8 a1.a0, vU8 a1.a1, vU8 a1.a2, vU8 a1.a3, vU8 a1.a4, vU8 a1.a5, vU8 a2.a0, vU8 a2.a1, vU8 a2.a2, vU8 a2.a3, vU8 a2.a4, vU8 a2.a5, vI ((-1) : Int), vU16 (0 : UInt16), .slice none 0 0])] [Fact.sl u8S v3 (sub b (12 : Int) (len b))] [2, 4, 5] [0, 1] [1] rfl ?_
   refine Qe (Qe (Qb (sMv rfl rfl rfl ?_)))
   obtain ⟨word1, hx1, h⟩ := ob_e h
   refine Qt rfl (QO (w_frame_word hx1) [] [0] rfl rfl rfl rfl rfl callee69 rfl rfl rfl rfl) ?_
   rintro _ ⟨_, _, _, ⟨rfl, rfl, rfl⟩, rfl⟩
   refine Qa rfl (Qg rfl rfl rfl rfl rfl (bin_eql_u16 (a := word1) (b := (33024 : UInt16)))) ?_
   refine nW [(2, some (.pointer (some ⟨b1, 0, none⟩))), (4, some (.pointer (some ⟨b2, 0, none⟩))), (5, some v3), (23, some (vB (word1 == (33024 : UInt16))))] [some (Qd b1 37 [vU8 (0 : UInt8), vU8 (0 : UInt8), vU8 (0 : UInt8), vU8 (0 : UInt8), vU8 (0 : UInt8), vU8 (0 : UInt8), vU8 (0 : UInt8), vU8 (0 : UInt8), vU8 (0 : UInt8), vU8 (0 : UInt8), vU8 (0 : UInt8), vU8 (0 : UInt8), vI (0 : Int), vU16 (0 : UInt16), .slice none 0 0]), some (Qd b2 37 [vU8 a1.a0, vU8 a1.a1, vU8 a1.a2, vU8 a1.a3, vU8 a1.a4, vU8 a1.a5, vU8 a2.a0, vU8 a2.a1, vU8 a2.a2, vU8 a2.a3, vU8 a2.a4, vU8 a2.a5, vI ((-1) : Int), vU16 (0 : UInt16), .slice none 0 0])] [Fact.sl u8S v3 (sub b (12 : Int) (len b))] [2, 4, 5, 23] [0, 1] [0] rfl ?_
   refine Yu (α := (A6 UInt8) × (A6 UInt8) × Int × UInt16 × (List UInt8) × (A6 UInt8) × (A6 UInt8) × Int × UInt16 × (List UInt8) × (List UInt8) × Value × Value × Value) (fun s => ⟨[(2, some (.pointer (some ⟨b1, 0, none⟩))), (4, some (.pointer (some ⟨b2, 0, none⟩))), (5, some (s.2.2.2.2.2.2.2.2.2.2.2.2.2))], [some (Qd b1 37 [vU8 s.1.a0, vU8 s.1.a1, vU8 s.1.a2, vU8 s.1.a3, vU8 s.1.a4, vU8 s.1.a5, vU8 s.2.1.a0, vU8 s.2.1.a1, vU8 s.2.1.a2, vU8 s.2.1.a3, vU8 s.2.1.a4, vU8 s.2.1.a5, vI s.2.2.1, vU16 s.2.2.2.1, s.2.2.2.2.2.2.2.2.2.2.2.1]), some (Qd b2 37 [vU8 s.2.2.2.2.2.1.a0, vU8 s.2.2.2.2.2.1.a1, vU8 s.2.2.2.2.2.1.a2, vU8 s.2.2.2.2.2.1.a3, vU8 s.2.2.2.2.2.1.a4, vU8 s.2.2.2.2.2.1.a5, vU8 s.2.2.2.2.2.2.1.a0, vU8 s.2.2.2.2.2.2.1.a1, vU8 s.2.2.2.2.2.2.1.a2, vU8 s.2.2.2.2.2.2.1.a3, vU8 s.2.2.2.2.2.2.1.a4, vU8 s.2.2.2.2.2.2.1.a5, vI s.2.2.2.2.2.2.2.1, vU16 s.2.2.2.2.2.2.2.2.1, s.2.2.2.2.2.2.2.2.2.2.2.2.1])], [Fact.sl u8S s.2.2.2.2.2.2.2.2.2.2.2.1 s.2.2.2.2.1, Fact.sl u8S s.2.2.2.2.2.2.2.2.2.2.2.2.1 s.2.2.2.2.2.2.2.2.2.1, Fact.sl u8S s.2.2.2.2.2.2.2.2.2.2.2.2.2 s.2.2.2.2.2.2.2.2.2.2.1]⟩) (fun s => Yn s.1 s.2.1 s.2.2.1 s.2.2.2.1 s.2.2.2.2.1 s.2.2.2.2.2.1 s.2.2.2.2.2.2.1 s.2.2.2.2.2.2.2.1 s.2.2.2.2.2.2.2.2.1 s.2.2.2.2.2.2.2.2.2.1 s.2.2.2.2.2.2.2.2.2.2.1 = some r) ?_ ?_
   ·rintro ⟨Dst1, Src1, Vlan1, Type1, Data1, Dst2, Src2, Vlan2, Type2, Data2, rest1, v4, v5, v6⟩ h
    replace h : Yn Dst1 Src1 Vlan1 Type1 Data1 Dst2 Src2 Vlan2 Type2 Data2 rest1 = some r := h
    unfold Yn at h
    refine Qe (Zw (by kernel_rfl) ?_)
    refine TA_tb [0, 1, 0, 4, 15, 3, 63, 127, 255] (by kernel_rfl) fun htb => ?_
    obtain ⟨word2, hx2, h⟩ := ob_e h
    obtain ⟨hc6, h⟩ := Zi h
    obtain ⟨cloneb1, hx3, h⟩ := ob_e h
    refine Zs (lo := 0) (hi := 6) htb rfl rfl (by kernel_rfl) (fun c L a w => ∃ (v7 : Value), ∃ (v8 : Value), Sat c ⟨[(2, some (.pointer (some ⟨b1, 0, none⟩))), (4, some (.pointer (some ⟨b2, 0, none⟩))), (5, some v6), (35, bif L 0 then some (v6) else none), (36, bif L 1 then some (vU16 word2) else none), (37, bif L 2 then some (v6) else none), (38, bif L 3 then some (v7) else none), (39, bif L 4 then some (v8) else none), (40, bif L 5 then some (.pointer (some ⟨b2, 13, none⟩)) else none)], [(some (Qd b1 37 [vU8 Dst1.a0, vU8 Dst1.a1, vU8 Dst1.a2, vU8 Dst1.a3, vU8 Dst1.a4, vU8 Dst1.a5, vU8 Src1.a0, vU8 Src1.a1, vU8 Src1.a2, vU8 Src1.a3, vU8 Src1.a4, vU8 Src1.a5, vI Vlan1, vU16 Type1, v4]) : Option Res), (some (Qd b2 37 [vU8 Dst2.a0, vU8 Dst2.a1, vU8 Dst2.a2, vU8 Dst2.a3, vU8 Dst2.a4, vU8 Dst2.a5, vU8 Src2.a0, vU8 Src2.a1, vU8 Src2.a2, vU8 Src2.a3, vU8 Src2.a4, vU8 Src2.a5, vI Vlan2, vU16 Type2, v5]) : Option Res), (bif L 4 then some (rowS u8S v8 cloneb1) else none : Option Res)], [Fact.sl u8S v4 Data1, Fact.sl u8S v5 Data2, Fact.sl u8S v6 rest1, (bif L 3 then Fact.sl u8S v7 (sub rest1 (2 : Int) (len rest1)) else Fact.tt)]⟩ a w) [([], [1, 4, 5]), ([0], [4, 5]), ([], [3, 4]), ([2], [4]), ([0, 1, 2, 3], []), ([0, 1], [])] rfl (by kernel_rfl) ?_ (Qc ?_ (Qc ?_ (Qc ?_ (Qc ?_ (Qc ?_ (Qc ?_ (QH))))))) ?_
    ·intro a w hs
     exact ⟨undef, undef, hs.startF [35, 36, 37, 38, 39, 40] [0, 1, 2] [0, 1, 2, 3] rfl rfl rfl rfl⟩
    ·intro L a w hv K Q hK
     obtain ⟨v7, v8, hs⟩ := hv
     exact wGo rfl rfl hs (Qk rfl rfl rfl rfl) fun a w hs => hK a w ⟨v7, v8, pF hs 3 [0, 1, 2] [0, 1, 2, 3] rfl⟩
    ·intro L a w hv K Q hK
     obtain ⟨v7, v8, hs⟩ := hv
     refine QG rfl rfl hs (QO (w_frame_word hx2) [] [2] rfl rfl rfl rfl rfl callee69 rfl rfl rfl rfl) ?_
     rintro _ ⟨_, _, _, ⟨rfl, rfl, rfl⟩, rfl⟩ a' w' hs'
     exact hK a' w' ⟨v7, v8, hs'.putF (i := 4) rfl [0, 1, 2] [0, 1, 2, 3] rfl rfl rfl rfl⟩
    ·intro L a w hv K Q hK
     obtain ⟨v7, v8, hs⟩ := hv
     exact wGo rfl rfl hs (Qk rfl rfl rfl rfl) fun a w hs => hK a w ⟨v7, v8, pF hs 5 [0, 1, 2] [0, 1, 2, 3] rfl⟩
    ·intro L a w hv K Q hK
     obtain ⟨v7, v8, hs⟩ := hv
     refine QG rfl rfl hs (XQ (l := (2 : Int)) rfl rfl rfl rfl rfl Xg (i := 2) rfl hc6) ?_
     rintro _ ⟨v7', rfl⟩ a' w' hs'
     exact hK a' w' ⟨v7', v8, hs'.putF (i := 6) rfl [0, 1, 2] [0, 1, 2, 4] rfl rfl rfl rfl⟩
    ·intro L a w hv K Q hK
     obtain ⟨v7, v8, hs⟩ := hv
     refine QG rfl rfl hs (QO (Kf hx3) [] [3] rfl rfl rfl rfl rfl callee70 rfl rfl rfl rfl) ?_
     rintro _ ⟨v8', _, _, ⟨_, rfl, rfl, rfl⟩, rfl⟩ a' w' hs'
     exact hK a' w' ⟨v7, v8', hs'.putF (i := 7) rfl [0, 1, 3] [0, 1, 2, 3] rfl rfl rfl rfl⟩
    ·intro L a w hv K Q hK
     obtain ⟨v7, v8, hs⟩ := hv
     exact wGo rfl rfl hs (Qo rfl rfl rfl rfl fldF37x3) fun a w hs => hK a w ⟨v7, v8, pF hs 8 [0, 1, 2] [0, 1, 2, 3] rfl⟩
    ·intro L a w hL hv
     rw [QZ hL] at hv
     obtain ⟨v7, v8, hs⟩ := hv
     refine (show TA _ _ _ 6 ⟨[(2, some (.pointer (some ⟨b1, 0, none⟩))), (4, some (.pointer (some ⟨b2, 0, none⟩))), (36, some (vU16 word2)), (39, some v8), (40, some (.pointer (some ⟨b2, 13, none⟩)))], [some (Qd b1 37 [vU8 Dst1.a0, vU8 Dst1.a1, vU8 Dst1.a2, vU8 Dst1.a3, vU8 Dst1.a4, vU8 Dst1.a5, vU8 Src1.a0, vU8 Src1.a1, vU8 Src1.a2, vU8 Src1.a3, vU8 Src1.a4, vU8 Src1.a5, vI Vlan1, vU16 Type1, v4]), some (Qd b2 37 [vU8 Dst2.a0, vU8 Dst2.a1, vU8 Dst2.a2, vU8 Dst2.a3, vU8 Dst2.a4, vU8 Dst2.a5, vU8 Src2.a0, vU8 Src2.a1, vU8 Src2.a2, vU8 Src2.a3, vU8 Src2.a4, vU8 Src2.a5, vI Vlan2, vU16 Type2, v5]), some (rowS u8S v8 cloneb1)], [Fact.sl u8S v4 Data1, Fact.sl u8S v5 Data2]⟩ from ?_) a w (hs.wkS [2, 4, 36, 39, 40] [0, 1, 2] [0, 1] rfl rfl rfl rfl)
     clear hs hL
     refine QL htb (by kernel_rfl) rfl rfl (QE (cs' := [vU8 Dst2.a0, vU8 Dst2.a1, vU8 Dst2.a2, vU8 Dst2.a3, vU8 Dst2.a4, vU8 Dst2.a5, vU8 Src2.a0, vU8 Src2.a1, vU8 Src2.a2, vU8 Src2.a3, vU8 Src2.a4, vU8 Src2.a5, vI Vlan2, vU16 word2, v5]) rfl rfl rfl rfl tyF34 (i := 1) rfl rfl rfl (ZE rfl) rfl) ?_
     refine QL htb (by kernel_rfl) rfl rfl (Qo rfl rfl rfl rfl fldF37x4) ?_
     refine QL htb (by kernel_rfl) rfl rfl (OpT_storeV (cs' := [vU8 Dst2.a0, vU8 Dst2.a1, vU8 Dst2.a2, vU8 Dst2.a3, vU8 Dst2.a4, vU8 Dst2.a5, vU8 Src2.a0, vU8 Src2.a1, vU8 Src2.a2, vU8 Src2.a3, vU8 Src2.a4, vU8 Src2.a5, vI Vlan2, vU16 word2, v8]) rfl rfl rfl rfl tyF35 (i := 1) rfl (is_row (i := 2) rfl) rfl rfl) ?_
     refine ZW rfl ?_
     refine tW [(2, some (.pointer (some ⟨b1, 0, none⟩))), (4, some (.pointer (some ⟨b2, 0, none⟩)))] [some (Qd b1 37 [vU8 Dst1.a0, vU8 Dst1.a1, vU8 Dst1.a2, vU8 Dst1.a3, vU8 Dst1.a4, vU8 Dst1.a5, vU8 Src1.a0, vU8 Src1.a1, vU8 Src1.a2, vU8 Src1.a3, vU8 Src1.a4, vU8 Src1.a5, vI Vlan1, vU16 Type1, v4]), some (Qd b2 37 [vU8 Dst2.a0, vU8 Dst2.a1, vU8 Dst2.a2, vU8 Dst2.a3, vU8 Dst2.a4, vU8 Dst2.a5, vU8 Src2.a0, vU8 Src2.a1, vU8 Src2.a2, vU8 Src2.a3, vU8 Src2.a4, vU8 Src2.a5, vI Vlan2, vU16 word2, v8]), some (rowS u8S v8 cloneb1)] [Fact.sl u8S v4 Data1] [2, 4] [0, 1, 2] [0] rfl ?_
     refine Qe (Qe (Qb (Qa rfl (Zx (vs := [vU8 Dst2.a0, vU8 Dst2.a1, vU8 Dst2.a2, vU8 Dst2.a3, vU8 Dst2.a4, vU8 Dst2.a5, vU8 Src2.a0, vU8 Src2.a1, vU8 Src2.a2, vU8 Src2.a3, vU8 Src2.a4, vU8 Src2.a5, vI Vlan2, vU16 word2, v8]) rfl rfl rfl rfl Xo (i := 1) rfl rfl rfl) ?_)))
     obtain ⟨check1, hx4, h⟩ := ob_e h
     refine Qt rfl (Zj [2] [0, 1, 2] (w_frame_Check hx4) [] rfl rfl rfl rfl rfl callee60 rfl rfl rfl rfl rfl rfl (QV (ZO 2 rfl rfl) Xe) (by rintro _ _ _ ⟨rfl, rfl, rfl⟩; exact ⟨rfl, Ye⟩)) ?_
     rintro _ ⟨_, _, _, ⟨rfl, rfl, rfl⟩, rfl⟩
     refine Qa rfl (Qg rfl rfl rfl rfl rfl (QU (a := check1) (b := (0 : Int)))) ?_
     refine nW [(2, some (.pointer (some ⟨b1, 0, none⟩))), (4, some (.pointer (some ⟨b2, 0, none⟩))), (44, some (vB (check1 != (0 : Int))))] [some (Qd b1 37 [vU8 Dst1.a0, vU8 Dst1.a1, vU8 Dst1.a2, vU8 Dst1.a3, vU8 Dst1.a4, vU8 Dst1.a5, vU8 Src1.a0, vU8 Src1.a1, vU8 Src1.a2, vU8 Src1.a3, vU8 Src1.a4, vU8 Src1.a5, vI Vlan1, vU16 Type1, v4]), some (Qd b2 37 [vU8 Dst2.a0, vU8 Dst2.a1, vU8 Dst2.a2, vU8 Dst2.a3, vU8 Dst2.a4, vU8 Dst2.a5, vU8 Src2.a0, vU8 Src2.a1, vU8 Src2.a2, vU8 Src2.a3, vU8 Src2.a4, vU8 Src2.a5, vI Vlan2, vU16 word2, v8]), some (rowS u8S v8 cloneb1)] [Fact.sl u8S v4 Data1] [2, 4, 44] [0, 1, 2] [0] rfl ?_
     rcases bC (check1 != (0 : Int)) with hg2 | hg2
     ·replace h := br_t hg2 h
      refine Ql (cgb hg2) ?_
      refine Qe (Qb (Qa rfl (Zd (v := .agg #[vU8 (0 : UInt8), vU8 (0 : UInt8), vU8 (0 : UInt8), vU8 (0 : UInt8), vU8 (0 : UInt8), vU8 (0 : UInt8), vU8 (0 : UInt8), vU8 (0 : UInt8), vU8 (0 : UInt8), vU8 (0 : UInt8), vU8 (0 : UInt8), vU8 (0 : UInt8), vI (0 : Int), vU16 (0 : UInt16), .slice none 0 0]) rfl rfl rfl rfl (bldV (by kernel_rfl))) ?_))
      refine Qa rfl (QE (cs' := [vU8 (0 : UInt8), vU8 (0 : UInt8), vU8 (0 : UInt8), vU8 (0 : UInt8), vU8 (0 : UInt8), vU8 (0 : UInt8), vU8 (0 : UInt8), vU8 (0 : UInt8), vU8 (0 : UInt8), vU8 (0 : UInt8), vU8 (0 : UInt8), vU8 (0 : UInt8), vI (0 : Int), vU16 (0 : UInt16), .slice none 0 0]) rfl rfl rfl rfl Xo (i := 0) rfl rfl rfl (ZE rfl) rfl) ?_
      refine sAs rfl rfl rfl ?_
      refine nW [(2, some (.pointer (some ⟨b1, 0, none⟩))), (3, some (vI (4 : Int)))] [some (Qd b1 37 [vU8 (0 : UInt8), vU8 (0 : UInt8), vU8 (0 : UInt8), vU8 (0 : UInt8), vU8 (0 : UInt8), vU8 (0 : UInt8), vU8 (0 : UInt8), vU8 (0 : UInt8), vU8 (0 : UInt8), vU8 (0 : UInt8), vU8 (0 : UInt8), vU8 (0 : UInt8), vI (0 : Int), vU16 (0 : UInt16), .slice none 0 0])] [] [2, 3] [0] [] rfl ?_
      refine QI u8S ?_
      obtain rfl := Option.some.inj h
      exact Qn rfl rfl (resA (vs := [.agg #[vU8 (0 : UInt8), vU8 (0 : UInt8), vU8 (0 : UInt8), vU8 (0 : UInt8), vU8 (0 : UInt8), vU8 (0 : UInt8), vU8 (0 : UInt8), vU8 (0 : UInt8), vU8 (0 : UInt8), vU8 (0 : UInt8), vU8 (0 : UInt8), vU8 (0 : UInt8), vI (0 : Int), vU16 (0 : UInt16), .slice none 0 0], vI (4 : Int)]) rfl ⟨⟨_, 0, _, _, _, rfl, rfl, .inl ⟨Xo, rfl, rfl⟩⟩, rfl, trivial⟩) [1] [] rfl rfl rfl ⟨(.slice none 0 0), rfl, rfl, rfl⟩
     ·replace h := br_f hg2 h
      refine Qm (cgb hg2) ?_
      refine Qr (Qe (Qb (Qa rfl (Zx (vs := [vU8 Dst2.a0, vU8 Dst2.a1, vU8 Dst2.a2, vU8 Dst2.a3, vU8 Dst2.a4, vU8 Dst2.a5, vU8 Src2.a0, vU8 Src2.a1, vU8 Src2.a2, vU8 Src2.a3, vU8 Src2.a4, vU8 Src2.a5, vI Vlan2, vU16 word2, v8]) rfl rfl rfl rfl Xo (i := 1) rfl rfl rfl) ?_)))
      refine Qa rfl (OpT_storeA1 (fun z0 => [vU8 Dst2.a0, vU8 Dst2.a1, vU8 Dst2.a2, vU8 Dst2.a3, vU8 Dst2.a4, vU8 Dst2.a5, vU8 Src2.a0, vU8 Src2.a1, vU8 Src2.a2, vU8 Src2.a3, vU8 Src2.a4, vU8 Src2.a5, vI Vlan2, vU16 word2, z0]) (cs' := [vU8 Dst2.a0, vU8 Dst2.a1, vU8 Dst2.a2, vU8 Dst2.a3, vU8 Dst2.a4, vU8 Dst2.a5, vU8 Src2.a0, vU8 Src2.a1, vU8 Src2.a2, vU8 Src2.a3, vU8 Src2.a4, vU8 Src2.a5, vI Vlan2, vU16 word2, v8]) rfl rfl rfl rfl Xo (i := 0) rfl (is_row (i := 2) rfl) (fun _ _ _ => rfl) rfl rfl rfl) ?_
      refine sAs rfl rfl rfl ?_
      refine nW [(2, some (.pointer (some ⟨b1, 0, none⟩))), (3, some (vI (0 : Int)))] [some (Qd b1 37 [vU8 Dst2.a0, vU8 Dst2.a1, vU8 Dst2.a2, vU8 Dst2.a3, vU8 Dst2.a4, vU8 Dst2.a5, vU8 Src2.a0, vU8 Src2.a1, vU8 Src2.a2, vU8 Src2.a3, vU8 Src2.a4, vU8 Src2.a5, vI Vlan2, vU16 word2, v8]), some (rowS u8S v8 cloneb1)] [] [2, 3] [0, 2] [] rfl ?_
      obtain rfl := Option.some.inj h
      exact Qn rfl rfl (resA (vs := [.agg #[vU8 Dst2.a0, vU8 Dst2.a1, vU8 Dst2.a2, vU8 Dst2.a3, vU8 Dst2.a4, vU8 Dst2.a5, vU8 Src2.a0, vU8 Src2.a1, vU8 Src2.a2, vU8 Src2.a3, vU8 Src2.a4, vU8 Src2.a5, vI Vlan2, vU16 word2, v8], vI (0 : Int)]) rfl ⟨⟨_, 0, _, _, _, rfl, rfl, .inl ⟨Xo, rfl, rfl⟩⟩, rfl, trivial⟩) [1] [] rfl rfl rfl ⟨v8, rfl, rfl, rfl⟩
   ·intro HJ1
    rcases bC (word1 == (33024 : UInt16)) with hg3 | hg3
    ·replace h := br_t hg3 h
     refine Ql (cgb hg3) ?_
     refine Qe (Qe (Qb (sMv rfl rfl rfl ?_)))
     refine Qa rfl (QB rfl rfl rfl rfl Try.underlying35 (i := 0) rfl) ?_
     refine Qa rfl (Qg rfl rfl rfl rfl rfl (QK (a := len (sub b (12 : Int) (len b))) (b := (6 : Int)))) ?_
     refine nW [(2, some (.pointer (some ⟨b1, 0, none⟩))), (4, some (.pointer (some ⟨b2, 0, none⟩))), (5, some v3), (26, some (vB (decide ((len (sub b (12 : Int) (len b))) < (6 : Int)))))] [some (Qd b1 37 [vU8 (0 : UInt8), vU8 (0 : UInt8), vU8 (0 : UInt8), vU8 (0 : UInt8), vU8 (0 : UInt8), vU8 (0 : UInt8), vU8 (0 : UInt8), vU8 (0 : UInt8), vU8 (0 : UInt8), vU8 (0 : UInt8), vU8 (0 : UInt8), vU8 (0 : UInt8), vI (0 : Int), vU16 (0 : UInt16), .slice none 0 0]), some (Qd b2 37 [vU8 a1.a0, vU8 a1.a1, vU8 a1.a2, vU8 a1.a3, vU8 a1.a4, vU8 a1.a5, vU8 a2.a0, vU8 a2.a1, vU8 a2.a2, vU8 a2.a3, vU8 a2.a4, vU8 a2.a5, vI ((-1) : Int), vU16 (0 : UInt16), .slice none 0 0])] [Fact.sl u8S v3 (sub b (12 : Int) (len b))] [2, 4, 5, 26] [0, 1] [0] rfl ?_
     rcases bC (decide ((len (sub b (12 : Int) (len b))) < (6 : Int))) with hg4 | hg4
     ·replace h := br_t hg4 h
      refine Ql (cgb hg4) ?_
      refine Qe (Qb (Qa rfl (Zd (v := .agg #[vU8 (0 : UInt8), vU8 (0 : UInt8), vU8 (0 : UInt8), vU8 (0 : UInt8), vU8 (0 : UInt8), vU8 (0 : UInt8), vU8 (0 : UInt8), vU8 (0 : UInt8), vU8 (0 : UInt8), vU8 (0 : UInt8), vU8 (0 : UInt8), vU8 (0 : UInt8), vI (0 : Int), vU16 (0 : UInt16), .slice none 0 0]) rfl rfl rfl rfl (bldV (by kernel_rfl))) ?_))
      refine Qa rfl (QE (cs' := [vU8 (0 : UInt8), vU8 (0 : UInt8), vU8 (0 : UInt8), vU8 (0 : UInt8), vU8 (0 : UInt8), vU8 (0 : UInt8), vU8 (0 : UInt8), vU8 (0 : UInt8), vU8 (0 : UInt8), vU8 (0 : UInt8), vU8 (0 : UInt8), vU8 (0 : UInt8), vI (0 : Int), vU16 (0 : UInt16), .slice none 0 0]) rfl rfl rfl rfl Xo (i := 0) rfl rfl rfl (ZE rfl) rfl) ?_
      refine sAs rfl rfl rfl ?_
      refine nW [(2, some (.pointer (some ⟨b1, 0, none⟩))), (3, some (vI (4 : Int)))] [some (Qd b1 37 [vU8 (0 : UInt8), vU8 (0 : UInt8), vU8 (0 : UInt8), vU8 (0 : UInt8), vU8 (0 : UInt8), vU8 (0 : UInt8), vU8 (0 : UInt8), vU8 (0 : UInt8), vU8 (0 : UInt8), vU8 (0 : UInt8), vU8 (0 : UInt8), vU8 (0 : UInt8), vI (0 : Int), vU16 (0 : UInt16), .slice none 0 0])] [] [2, 3] [0] [] rfl ?_
      refine QI u8S ?_
      obtain rfl := Option.some.inj h
      exact Qn rfl rfl (resA (vs := [.agg #[vU8 (0 : UInt8), vU8 (0 : UInt8), vU8 (0 : UInt8), vU8 (0 : UInt8), vU8 (0 : UInt8), vU8 (0 : UInt8), vU8 (0 : UInt8), vU8 (0 : UInt8), vU8 (0 : UInt8), vU8 (0 : UInt8), vU8 (0 : UInt8), vU8 (0 : UInt8), vI (0 : Int), vU16 (0 : UInt16), .slice none 0 0], vI (4 : Int)]) rfl ⟨⟨_, 0, _, _, _, rfl, rfl, .inl ⟨Xo, rfl, rfl⟩⟩, rfl, trivial⟩) [1] [] rfl rfl rfl ⟨(.slice none 0 0), rfl, rfl, rfl⟩
     ·replace h := br_f hg4 h
      refine Qm (cgb hg4) ?_
      refine Qr (Zw (by kernel_rfl) ?_)
      refine TA_tb [0, 1, 3, 7, 0, 16, 15, 79, 255] (by kernel_rfl) fun htb => ?_
      refine Xy (fr' := [(2, some (.pointer (some ⟨b1, 0, none⟩))), (4, some (.pointer (some ⟨b2, 0, none⟩))), (5, some v3)]) (own' := [some (Qd b1 37 [vU8 (0 : UInt8), vU8 (0 : UInt8), vU8 (0 : UInt8), vU8 (0 : UInt8), vU8 (0 : UInt8), vU8 (0 : UInt8), vU8 (0 : UInt8), vU8 (0 : UInt8), vU8 (0 : UInt8), vU8 (0 : UInt8), vU8 (0 : UInt8), vU8 (0 : UInt8), vI (0 : Int), vU16 (0 : UInt16), .slice none 0 0]), some (Qd b2 37 [vU8 a1.a0, vU8 a1.a1, vU8 a1.a2, vU8 a1.a3, vU8 a1.a4, vU8 a1.a5, vU8 a2.a0, vU8 a2.a1, vU8 a2.a2, vU8 a2.a3, vU8 a2.a4, vU8 a2.a5, vI ((-1) : Int), vU16 (0 : UInt16), .slice none 0 0])]) (shr' := [Fact.sl u8S v3 (sub b (12 : Int) (len b))]) [2, 4, 5] [0, 1] [0] rfl rfl rfl rfl ?_
      obtain ⟨hc7, h⟩ := Zi h
      obtain ⟨word3, hx5, h⟩ := ob_e h
      obtain ⟨hc8, h⟩ := Zi h
      refine Zs (lo := 0) (hi := 8) htb rfl rfl (by kernel_rfl) (fun c L a w => ∃ (v9 : Value), ∃ (v10 : Value), Sat c ⟨[(2, some (.pointer (some ⟨b1, 0, none⟩))), (4, some (.pointer (some ⟨b2, 0, none⟩))), (5, some v3), (28, bif L 0 then some (v3) else none), (29, bif L 1 then some (v9) else none), (30, bif L 2 then some (vU16 word3) else none), (31, bif L 3 then some (vI (i16 word3)) else none), (32, bif L 4 then some (v3) else none), (33, bif L 5 then some (v10) else none), (34, bif L 6 then some (.pointer (some ⟨b2, 12, none⟩)) else none)], [(some (Qd b1 37 [vU8 (0 : UInt8), vU8 (0 : UInt8), vU8 (0 : UInt8), vU8 (0 : UInt8), vU8 (0 : UInt8), vU8 (0 : UInt8), vU8 (0 : UInt8), vU8 (0 : UInt8), vU8 (0 : UInt8), vU8 (0 : UInt8), vU8 (0 : UInt8), vU8 (0 : UInt8), vI (0 : Int), vU16 (0 : UInt16), .slice none 0 0]) : Option Res), (bif L 7 then some (Qd b2 37 [vU8 a1.a0, vU8 a1.a1, vU8 a1.a2, vU8 a1.a3, vU8 a1.a4, vU8 a1.a5, vU8 a2.a0, vU8 a2.a1, vU8 a2.a2, vU8 a2.a3, vU8 a2.a4, vU8 a2.a5, vI (i16 word3), vU16 (0 : UInt16), .slice none 0 0]) else some (Qd b2 37 [vU8 a1.a0, vU8 a1.a1, vU8 a1.a2, vU8 a1.a3, vU8 a1.a4, vU8 a1.a5, vU8 a2.a0, vU8 a2.a1, vU8 a2.a2, vU8 a2.a3, vU8 a2.a4, vU8 a2.a5, vI ((-1) : Int), vU16 (0 : UInt16), .slice none 0 0]) : Option Res)], [Fact.sl u8S v3 (sub b (12 : Int) (len b)), (bif L 1 then Fact.sl u8S v9 (sub (sub b (12 : Int) (len b)) (2 : Int) (len (sub b (12 : Int) (len b)))) else Fact.tt), (bif L 5 then Fact.sl u8S v10 (sub (sub b (12 : Int) (len b)) (4 : Int) (len (sub b (12 : Int) (len b)))) else Fact.tt)]⟩ a w) [([], [1, 2, 3, 6, 7]), ([0], [2, 3, 6, 7]), ([0, 1], [3, 6, 7]), ([0, 1, 2], [6, 7]), ([], [5]), ([4], []), ([0, 1, 2, 3], [7]), ([0, 1, 2, 3, 6], [])] rfl (by kernel_rfl) ?_ (Qc ?_ (Qc ?_ (Qc ?_ (Qc ?_ (Qc ?_ (Qc ?_ (Qc ?_ (Qc ?_ (QH))))))))) ?_
      ·intro a w hs
       exact ⟨undef, undef, hs.startF [28, 29, 30, 31, 32, 33, 34] [0, 1] [0, 1, 2] rfl rfl rfl rfl⟩
      ·intro L a w hv K Q hK
       obtain ⟨v9, v10, hs⟩ := hv
       exact wGo rfl rfl hs (Qk rfl rfl rfl rfl) fun a w hs => hK a w ⟨v9, v10, pF hs 3 [0, 1] [0, 1, 2] rfl⟩
      ·intro L a w hv K Q hK
       obtain ⟨v9, v10, hs⟩ := hv
       refine QG rfl rfl hs (XQ (l := (2 : Int)) rfl rfl rfl rfl rfl Xg (i := 0) rfl hc7) ?_
       rintro _ ⟨v9', rfl⟩ a' w' hs'
       exact hK a' w' ⟨v9', v10, hs'.putF (i := 4) rfl [0, 1] [0, 3, 2] rfl rfl rfl rfl⟩
      ·intro L a w hv K Q hK
       obtain ⟨v9, v10, hs⟩ := hv
       refine QG rfl rfl hs (QO (w_frame_word hx5) [] [1] rfl rfl rfl rfl rfl callee69 rfl rfl rfl rfl) ?_
       rintro _ ⟨_, _, _, ⟨rfl, rfl, rfl⟩, rfl⟩ a' w' hs'
       exact hK a' w' ⟨v9, v10, hs'.putF (i := 5) rfl [0, 1] [0, 1, 2] rfl rfl rfl rfl⟩
      ·intro L a w hv K Q hK
       obtain ⟨v9, v10, hs⟩ := hv
       exact wGo rfl rfl hs (QM rfl rfl rfl rfl (cnv_u16_i (n := word3) Try.underlying34 Try.underlying3)) fun a w hs => hK a w ⟨v9, v10, pF hs 6 [0, 1] [0, 1, 2] rfl⟩
      ·intro L a w hv K Q hK
       obtain ⟨v9, v10, hs⟩ := hv
       exact wGo rfl rfl hs (Qk rfl rfl rfl rfl) fun a w hs => hK a w ⟨v9, v10, pF hs 7 [0, 1] [0, 1, 2] rfl⟩
      ·intro L a w hv K Q hK
       obtain ⟨v9, v10, hs⟩ := hv
       refine QG rfl rfl hs (XQ (l := (4 : Int)) rfl rfl rfl rfl rfl Xg (i := 0) rfl hc8) ?_
       rintro _ ⟨v10', rfl⟩ a' w' hs'
       exact hK a' w' ⟨v9, v10', hs'.putF (i := 8) rfl [0, 1] [0, 1, 3] rfl rfl rfl rfl⟩
      ·intro L a w hv K Q hK
       obtain ⟨v9, v10, hs⟩ := hv
       exact wGo rfl rfl hs (Qo rfl rfl rfl rfl YE) fun a w hs => hK a w ⟨v9, v10, pF hs 9 [0, 1] [0, 1, 2] rfl⟩
      ·intro L a w hv K Q hK
       obtain ⟨v9, v10, hs⟩ := hv
       exact wGo rfl rfl hs (QE (cs' := [vU8 a1.a0, vU8 a1.a1, vU8 a1.a2, vU8 a1.a3, vU8 a1.a4, vU8 a1.a5, vU8 a2.a0, vU8 a2.a1, vU8 a2.a2, vU8 a2.a3, vU8 a2.a4, vU8 a2.a5, vI (i16 word3), vU16 (0 : UInt16), .slice none 0 0]) rfl rfl rfl rfl tyF3 (i := 1) rfl rfl rfl (ZE rfl) rfl) fun a w hs => hK a w ⟨v9, v10, hs.sameF [0, 1] [0, 1, 2] rfl rfl rfl rfl⟩
      ·intro L a w hL hv
       rw [QZ hL] at hv
       obtain ⟨v9, v10, hs⟩ := hv
       refine (show TA _ _ _ 8 ⟨[(2, some (.pointer (some ⟨b1, 0, none⟩))), (4, some (.pointer (some ⟨b2, 0, none⟩))), (33, some v10)], [some (Qd b1 37 [vU8 (0 : UInt8), vU8 (0 : UInt8), vU8 (0 : UInt8), vU8 (0 : UInt8), vU8 (0 : UInt8), vU8 (0 : UInt8), vU8 (0 : UInt8), vU8 (0 : UInt8), vU8 (0 : UInt8), vU8 (0 : UInt8), vU8 (0 : UInt8), vU8 (0 : UInt8), vI (0 : Int), vU16 (0 : UInt16), .slice none 0 0]), some (Qd b2 37 [vU8 a1.a0, vU8 a1.a1, vU8 a1.a2, vU8 a1.a3, vU8 a1.a4, vU8 a1.a5, vU8 a2.a0, vU8 a2.a1, vU8 a2.a2, vU8 a2.a3, vU8 a2.a4, vU8 a2.a5, vI (i16 word3), vU16 (0 : UInt16), .slice none 0 0])], [Fact.sl u8S v10 (sub (sub b (12 : Int) (len b)) (4 : Int) (len (sub b (12 : Int) (len b))))]⟩ from ?_) a w (hs.wkS [2, 4, 33] [0, 1] [2] rfl rfl rfl rfl)
       clear hs hL
       refine QL htb (by kernel_rfl) rfl rfl (Zh rfl rfl rfl rfl) ?_
       refine ZW rfl ?_
       refine tW [(2, some (.pointer (some ⟨b1, 0, none⟩))), (4, some (.pointer (some ⟨b2, 0, none⟩))), (5, some v10)] [some (Qd b1 37 [vU8 (0 : UInt8), vU8 (0 : UInt8), vU8 (0 : UInt8), vU8 (0 : UInt8), vU8 (0 : UInt8), vU8 (0 : UInt8), vU8 (0 : UInt8), vU8 (0 : UInt8), vU8 (0 : UInt8), vU8 (0 : UInt8), vU8 (0 : UInt8), vU8 (0 : UInt8), vI (0 : Int), vU16 (0 : UInt16), .slice none 0 0]), some (Qd b2 37 [vU8 a1.a0, vU8 a1.a1, vU8 a1.a2, vU8 a1.a3, vU8 a1.a4, vU8 a1.a5, vU8 a2.a0, vU8 a2.a1, vU8 a2.a2, vU8 a2.a3, vU8 a2.a4, vU8 a2.a5, vI (i16 word3), vU16 (0 : UInt16), .slice none 0 0])] [Fact.sl u8S v10 (sub (sub b (12 : Int) (len b)) (4 : Int) (len (sub b (12 : Int) (len b))))] [2, 4, 5] [0, 1] [0] rfl ?_
       refine Tk_nilfact u8S ?_
       refine Tk_nilfact u8S ?_
       exact ZP (HJ1 ((A6.mk (0 : UInt8) (0 : UInt8) (0 : UInt8) (0 : UInt8) (0 : UInt8) (0 : UInt8)), (A6.mk (0 : UInt8) (0 : UInt8) (0 : UInt8) (0 : UInt8) (0 : UInt8) (0 : UInt8)), (0 : Int), (0 : UInt16), ([] : List UInt8), a1, a2, i16 word3, (0 : UInt16), ([] : List UInt8), sub (sub b (12 : Int) (len b)) (4 : Int) (len (sub b (12 : Int) (len b))), .slice none 0 0, .slice none 0 0, v10) h) [2, 4, 5] [0, 1] [1, 2, 0] rfl rfl rfl rfl
    ·replace h := br_f hg3 h
     refine Qm (cgb hg3) ?_
     refine Qr (Tk_nilfact u8S ?_)
     refine Tk_nilfact u8S ?_
     exact ZP (HJ1 ((A6.mk (0 : UInt8) (0 : UInt8) (0 : UInt8) (0 : UInt8) (0 : UInt8) (0 : UInt8)), (A6.mk (0 : UInt8) (0 : UInt8) (0 : UInt8) (0 : UInt8) (0 : UInt8) (0 : UInt8)), (0 : Int), (0 : UInt16), ([] : List UInt8), a1, a2, ((-1) : Int), (0 : UInt16), ([] : List UInt8), sub b (12 : Int) (len b), .slice none 0 0, .slice none 0 0, v3) h) [2, 4, 5] [0, 1] [1, 2, 0] rfl rfl rfl rfl

set_option maxRecDepth 100000 in
set_option maxHeartbeats 4000000 in
theorem w_gmem_Mem_Read {m : gmem_Mem} {atp1 : UInt64} {np2 : Int} {b_m : Nat} {vm1 : Value} {vm2 : Value} {vsm1 : List Value} {r : ((List UInt8) × Int)} (h : XG m atp1 np2 = some r) :
  Ctr Try.prog 78 #[.pointer (some ⟨b_m, 0, none⟩), vU64 atp1, vI np2] [(Qd b_m 82 [vm1, vm2]), (Qj u8S true vm2 vsm1 m.b none)] [Fact.sl Qf vm1 m.l]
   (fun rv own shr => ∃ (w1 : Value), rv = .tuple #[w1, vI r.2] ∧ own = [(Qd b_m 82 [vm1, vm2]), (Qj u8S true vm2 vsm1 m.b none), (rowS u8S w1 r.1)] ∧ shr = []) := by
 unfold XG at h
 refine Ctr.mk (args := [.pointer (some ⟨b_m, 0, none⟩), vU64 atp1, vI np2]) Try.func78 rfl rfl (fun R0 w0 B => ?_)
 refine Qe (Qb (sAs rfl rfl rfl ?_))
 refine sAs rfl rfl rfl ?_
 refine nW [(0, some (.pointer (some ⟨b_m, 0, none⟩))), (1, some (vU64 atp1)), (2, some (vI np2))] [some (Qd b_m 82 [vm1, vm2]), some (Qj u8S true vm2 vsm1 m.b none)] [Fact.sl Qf vm1 m.l] [0, 1, 2] [0, 1] [0] rfl ?_
 refine Qe (Qe (Qb (sMv rfl rfl rfl ?_)))
 obtain ⟨made1, hx1, h⟩ := ob_e h
 refine Qt rfl (QW [2, 3] (w_gmem_Mem_made hx1) [0, 1] [0] rfl rfl rfl rfl rfl callee39 rfl rfl rfl rfl rfl) ?_
 rintro _ ⟨_, _, _, ⟨rfl, rfl, rfl⟩, rfl⟩
 refine Qa rfl (OpT_not rfl rfl rfl rfl) ?_
 refine nW [(0, some (.pointer (some ⟨b_m, 0, none⟩))), (1, some (vU64 atp1)), (2, some (vI np2)), (11, some (vB (!made1)))] [some (Qd b_m 82 [vm1, vm2]), some (Qj u8S true vm2 vsm1 m.b none)] [Fact.sl Qf vm1 m.l] [0, 1, 2, 11] [0, 1] [0] rfl ?_
 refine Qm (congrArg (fun b => some (Value.bool b)) (congrArg (!·) (Option.some.inj (show some true = some made1 from hx1)).symm)) ?_
 refine Qr (Qe (Qz (Qe (Qb (sMv rfl rfl rfl ?_)))))
 refine Qa rfl (Qg rfl rfl rfl rfl rfl (QK (a := np2) (b := (0 : Int)))) ?_
 refine sAs rfl rfl rfl ?_
 refine nW [(0, some (.pointer (some ⟨b_m, 0, none⟩))), (1, some (vU64 atp1)), (2, some (vI np2)), (12, some (vB (decide (np2 < (0 : Int)))))] [some (Qd b_m 82 [vm1, vm2]), some (Qj u8S true vm2 vsm1 m.b none)] [Fact.sl Qf vm1 m.l] [0, 1, 2, 12] [0, 1] [0] rfl ?_
 rcases bC (decide (np2 < (0 : Int))) with hg1 | hg1
 ·replace h := br_t hg1 h
  refine Ql (cgb hg1) ?_
  refine Qe (Qb (sAs rfl rfl rfl ?_))
  refine sAs rfl rfl rfl ?_
  refine nW [(6, some (.slice none 0 0)), (7, some (vI (2 : Int)))] [some (Qd b_m 82 [vm1, vm2]), some (Qj u8S true vm2 vsm1 m.b none)] [Fact.sl Qf vm1 m.l] [6, 7] [0, 1] [0] rfl ?_
  refine QI u8S ?_
  obtain rfl := Option.some.inj h
  exact Qn rfl rfl (resA (vs := [.slice none 0 0, vI (2 : Int)]) rfl ⟨rfl, rfl, trivial⟩) [0, 1, 2] [] rfl rfl rfl ⟨(.slice none 0 0), rfl, rfl, rfl⟩
 ·replace h := br_f hg1 h
  refine Qm (cgb hg1) ?_
  refine Qe (Qb (sMv rfl rfl rfl ?_))
  refine Qa rfl (Qg rfl rfl rfl rfl rfl (Xh (a := np2) (b := (0 : Int)))) ?_
  refine sAs rfl rfl rfl ?_
  refine nW [(0, some (.pointer (some ⟨b_m, 0, none⟩))), (1, some (vU64 atp1)), (2, some (vI np2)), (15, some (vB (np2 == (0 : Int))))] [some (Qd b_m 82 [vm1, vm2]), some (Qj u8S true vm2 vsm1 m.b none)] [Fact.sl Qf vm1 m.l] [0, 1, 2, 15] [0, 1] [0] rfl ?_
  rcases bC (np2 == (0 : Int)) with hg2 | hg2
  ·replace h := br_t hg2 h
   refine Ql (cgb hg2) ?_
   refine Qe (Qb (sAs rfl rfl rfl ?_))
   refine sAs rfl rfl rfl ?_
   refine nW [(6, some (.slice none 0 0)), (7, some (vI (0 : Int)))] [some (Qd b_m 82 [vm1, vm2]), some (Qj u8S true vm2 vsm1 m.b none)] [Fact.sl Qf vm1 m.l] [6, 7] [0, 1] [0] rfl ?_
   refine QI u8S ?_
   obtain rfl := Option.some.inj h
   exact Qn rfl rfl (resA (vs := [.slice none 0 0, vI (0 : Int)]) rfl ⟨rfl, rfl, trivial⟩) [0, 1, 2] [] rfl rfl rfl ⟨(.slice none 0 0), rfl, rfl, rfl⟩
  ·replace h := br_f hg2 h
   refine Qm (cgb hg2) ?_
   refine Qr (Zk (Qe (Qb (sMv rfl rfl rfl ?_))))
   refine sMv rfl rfl rfl ?_
   refine sMv rfl rfl rfl ?_
   refine Qa rfl (QM rfl rfl rfl rfl (Yq (n := np2) Try.underlying3 Try.underlying22)) ?_
   obtain ⟨bytes1, hx2, h⟩ := ob_e h
   refine Qt rfl (QW [2, 3] (w_gmem_Mem_bytes hx2) [0, 1] [0] rfl rfl rfl rfl rfl callee51 rfl rfl rfl rfl rfl) ?_
   rintro _ ⟨_, _, _, ⟨rfl, rfl, rfl⟩, rfl⟩
   refine sAs rfl rfl rfl ?_
   refine nW [(8, some (winV 1 vsm1 bytes1))] [some (Qd b_m 82 [vm1, vm2]), some (Qj u8S true vm2 vsm1 m.b none)] [Fact.sl Qf vm1 m.l] [8] [0, 1] [0] rfl ?_
   rcases onO_cases h with ⟨ho1, h⟩ | ⟨w1, ho1, h⟩
   ·refine Tk_eqv (x := winV 1 vsm1 bytes1) (y := .slice none 0 0) (by rw [ho1]; rfl) (fun z => ⟨[(8, some z)], [some (Qd b_m 82 [vm1, vm2]), some (Qj u8S true vm2 vsm1 m.b none)], [Fact.sl Qf vm1 m.l]⟩) ?_
    refine Qe (Qe (Qb (sMv rfl rfl rfl ?_)))
    refine Qa rfl (OpT_eqNilN rfl rfl rfl (.inl rfl) rfl rfl Try.underlying35) ?_
    refine nW [(8, some (.slice none 0 0)), (24, some (vB true))] [some (Qd b_m 82 [vm1, vm2]), some (Qj u8S true vm2 vsm1 m.b none)] [Fact.sl Qf vm1 m.l] [8, 24] [0, 1] [0] rfl ?_
    refine Ql rfl ?_
    refine Qe (Qb (sAs rfl rfl rfl ?_))
    refine sAs rfl rfl rfl ?_
    refine nW [(6, some (.slice none 0 0)), (7, some (vI (5 : Int)))] [some (Qd b_m 82 [vm1, vm2]), some (Qj u8S true vm2 vsm1 m.b none)] [Fact.sl Qf vm1 m.l] [6, 7] [0, 1] [0] rfl ?_
    refine QI u8S ?_
    obtain rfl := Option.some.inj h
    exact Qn rfl rfl (resA (vs := [.slice none 0 0, vI (5 : Int)]) rfl ⟨rfl, rfl, trivial⟩) [0, 1, 2] [] rfl rfl rfl ⟨(.slice none 0 0), rfl, rfl, rfl⟩
   ·refine Tk_eqv (x := winV 1 vsm1 bytes1) (y := subV (vsAt vsm1 (Int.toNat w1.1)) 1 (Int.toNat w1.2.1) (Int.toNat w1.2.2)) (by rw [ho1]; rfl) (fun z => ⟨[(8, some z)], [some (Qd b_m 82 [vm1, vm2]), some (Qj u8S true vm2 vsm1 m.b none)], [Fact.sl Qf vm1 m.l]⟩) ?_
    obtain ⟨row1, hx3, h⟩ := ob_e h
    refine Tk_vs (vs_focus (i := 1) (j := w1.1) rfl hx3) ?_
    obtain ⟨hc1, h⟩ := Zi h
    refine Qe (Qe (Qb (sMv rfl rfl rfl ?_)))
    obtain ⟨hc2, h⟩ := Zi h
    refine Qa rfl (OpT_eqSub (S := u8S) (l := w1.2.1) (m := w1.2.2) rfl rfl rfl (.inl rfl) rfl rfl Try.underlying35 (i := 2) rfl hc1 hc2) ?_
    refine nW [(8, some (subV (vsAt vsm1 (Int.toNat w1.1)) 1 (Int.toNat w1.2.1) (Int.toNat w1.2.2))), (24, some (vB false))] [some (Qd b_m 82 [vm1, vm2]), some (Qj u8S true vm2 vsm1 m.b (some (Int.toNat w1.1, vsAt vsm1 (Int.toNat w1.1)))), some (rowS u8S (vsAt vsm1 (Int.toNat w1.1)) row1)] [Fact.sl Qf vm1 m.l] [8, 24] [0, 1, 2] [0] rfl ?_
    refine Qm rfl ?_
    refine Qr (Qe (Qb (sMv rfl rfl rfl ?_)))
    obtain ⟨cloneb1, hx4, h⟩ := ob_e h
    refine Qt rfl (Zj [2] [0, 1, 2, 3] (Kf hx4) [] rfl rfl rfl rfl rfl callee70 rfl rfl rfl rfl rfl rfl (QV (bor_sub (S := u8S) (l := w1.2.1) (m := w1.2.2) 2 rfl rfl hc1) Xe) (by rintro _ _ _ ⟨_, rfl, rfl, rfl⟩; exact ⟨rfl, (ZL (ri_row (S := u8S) rfl _ _) Ye)⟩)) ?_
    rintro _ ⟨v1, _, _, ⟨_, rfl, rfl, rfl⟩, rfl⟩
    refine sAs rfl rfl rfl ?_
    refine sAs rfl rfl rfl ?_
    refine nW [(6, some v1), (7, some (vI (0 : Int)))] [some (Qd b_m 82 [vm1, vm2]), some (Qj u8S true vm2 vsm1 m.b (some (Int.toNat w1.1, vsAt vsm1 (Int.toNat w1.1)))), some (rowS u8S (vsAt vsm1 (Int.toNat w1.1)) row1), some (rowS u8S v1 cloneb1)] [Fact.sl Qf vm1 m.l] [6, 7] [0, 1, 2, 3] [0] rfl ?_
    refine Tk_vs (vs_unfocus0 (i := 1) (q := 2) rfl rfl rfl hx3) ?_
    obtain rfl := Option.some.inj h
    exact Qn rfl rfl (resA (vs := [v1, vI (0 : Int)]) rfl ⟨rfl, rfl, trivial⟩) [0, 1, 3] [] rfl rfl rfl ⟨v1, rfl, rfl, rfl⟩

set_option maxRecDepth 100000 in
set_option maxHeartbeats 4000000 in
theorem w_gmem_Mem_Has {m : gmem_Mem} {atp1 : UInt64} {np2 : UInt64} {b_m : Nat} {vm1 : Value} {vm2 : Value} {vsm1 : List Value} {r : Bool} (h : gmem_Mem_Has m atp1 np2 = some r) :
  Ctr Try.prog 79 #[.pointer (some ⟨b_m, 0, none⟩), vU64 atp1, vU64 np2] [(Qd b_m 82 [vm1, vm2]), (Qj u8S true vm2 vsm1 m.b none)] [Fact.sl Qf vm1 m.l]
   (fun rv own shr => rv = vB r ∧ own = [(Qd b_m 82 [vm1, vm2]), (Qj u8S true vm2 vsm1 m.b none)] ∧ shr = []) := by
 unfold gmem_Mem_Has at h
 refine Ctr.mk (args := [.pointer (some ⟨b_m, 0, none⟩), vU64 atp1, vU64 np2]) Try.func79 rfl rfl (fun R0 w0 B => ?_)
 refine Qe (Qb (sAs rfl rfl rfl ?_))
 refine nW [(0, some (.pointer (some ⟨b_m, 0, none⟩))), (1, some (vU64 atp1)), (2, some (vU64 np2))] [some (Qd b_m 82 [vm1, vm2]), some (Qj u8S true vm2 vsm1 m.b none)] [Fact.sl Qf vm1 m.l] [0, 1, 2] [0, 1] [0] rfl ?_
 refine Qe (Qb (sMv rfl rfl rfl ?_))
 obtain ⟨made1, hx1, h⟩ := ob_e h
 refine Qt rfl (QW [2, 3] (w_gmem_Mem_made hx1) [0, 1] [0] rfl rfl rfl rfl rfl callee39 rfl rfl rfl rfl rfl) ?_
 rintro _ ⟨_, _, _, ⟨rfl, rfl, rfl⟩, rfl⟩
 refine sMv rfl rfl rfl ?_
 refine Qi rfl rfl (congrArg (fun b => some (Value.bool b)) (Option.some.inj (show some true = some made1 from hx1)).symm) (Qk rfl rfl rfl rfl) ?_
 rintro _ rfl
 refine Qi rfl rfl (congrArg (fun b => some (Value.bool b)) (Option.some.inj (show some true = some made1 from hx1)).symm) (Qk rfl rfl rfl rfl) ?_
 rintro _ rfl
 refine Qi rfl rfl (congrArg (fun b => some (Value.bool b)) (Option.some.inj (show some true = some made1 from hx1)).symm) (Qk rfl rfl rfl rfl) ?_
 rintro _ rfl
 obtain ⟨bytes1, hx2, h⟩ := ob_e h
 refine Qi rfl rfl (congrArg (fun b => some (Value.bool b)) (Option.some.inj (show some true = some made1 from hx1)).symm) (QW [2, 3] (w_gmem_Mem_bytes hx2) [0, 1] [0] rfl rfl rfl rfl rfl callee51 rfl rfl rfl rfl rfl) ?_
 rintro _ ⟨_, _, _, ⟨rfl, rfl, rfl⟩, rfl⟩
 rcases onO_cases h with ⟨ho1, h⟩ | ⟨w1, ho1, h⟩
 ·rw [show (winV 1 vsm1 bytes1 : Value) = .slice none 0 0 from by rw [ho1]; rfl]
  refine Qi rfl rfl (congrArg (fun b => some (Value.bool b)) (Option.some.inj (show some true = some made1 from hx1)).symm) (OpT_eqNilN rfl rfl rfl (.inr rfl) rfl rfl Try.underlying35) ?_
  rintro _ rfl
  refine Qa rfl (Qw rfl rfl rfl (congrArg (fun b => some (Value.bool b)) (Option.some.inj (show some true = some made1 from hx1)).symm) rfl) ?_
  refine sAs rfl rfl rfl ?_
  refine nW [(6, some (vB false))] [some (Qd b_m 82 [vm1, vm2]), some (Qj u8S true vm2 vsm1 m.b none)] [Fact.sl Qf vm1 m.l] [6] [0, 1] [0] rfl ?_
  obtain rfl := Option.some.inj h
  exact Qn rfl rfl (resA (vs := [vB false]) rfl ⟨rfl, trivial⟩) [0, 1] [] rfl rfl rfl ⟨rfl, rfl, rfl⟩
 ·rw [show (winV 1 vsm1 bytes1 : Value) = subV (vsAt vsm1 (Int.toNat w1.1)) 1 (Int.toNat w1.2.1) (Int.toNat w1.2.2) from by rw [ho1]; rfl]
  obtain ⟨row1, hx3, h⟩ := ob_e h
  refine Tops_vs (vs_focus (i := 1) (j := w1.1) rfl hx3) ?_
  obtain ⟨hc1, h⟩ := Zi h
  obtain ⟨hc2, h⟩ := Zi h
  refine Qi rfl rfl (congrArg (fun b => some (Value.bool b)) (Option.some.inj (show some true = some made1 from hx1)).symm) (OpT_eqSub (S := u8S) (l := w1.2.1) (m := w1.2.2) rfl rfl rfl (.inr rfl) rfl rfl Try.underlying35 (i := 2) rfl hc1 hc2) ?_
  rintro _ rfl
  refine Qa rfl (Qw rfl rfl rfl (congrArg (fun b => some (Value.bool b)) (Option.some.inj (show some true = some made1 from hx1)).symm) rfl) ?_
  refine sAs rfl rfl rfl ?_
  refine nW [(6, some (vB true))] [some (Qd b_m 82 [vm1, vm2]), some (Qj u8S true vm2 vsm1 m.b (some (Int.toNat w1.1, vsAt vsm1 (Int.toNat w1.1)))), some (rowS u8S (vsAt vsm1 (Int.toNat w1.1)) row1)] [Fact.sl Qf vm1 m.l] [6] [0, 1, 2] [0] rfl ?_
  refine Tk_vs (vs_unfocus0 (i := 1) (q := 2) rfl rfl rfl hx3) ?_
  obtain rfl := Option.some.inj h
  exact Qn rfl rfl (resA (vs := [vB true]) rfl ⟨rfl, trivial⟩) [0, 1] [] rfl rfl rfl ⟨rfl, rfl, rfl⟩

set_option maxRecDepth 100000 in
set_option maxHeartbeats 4000000 in
theorem w_seg_In {m : gmem_Mem} {l : List Seg} {b_m : Nat} {vm1 : Value} {vm2 : Value} {vsm1 : List Value} {vl1 : Value} {r : Int} (h : seg_In m l = some r) :
  Ctr Try.prog 74 #[.pointer (some ⟨b_m, 0, none⟩), vl1] [(Qd b_m 82 [vm1, vm2]), (Qj u8S true vm2 vsm1 m.b none)] [Fact.sl Qf vm1 m.l, Fact.sl SegS vl1 l]
   (fun rv own shr => rv = vI r ∧ own = [(Qd b_m 82 [vm1, vm2]), (Qj u8S true vm2 vsm1 m.b none)] ∧ shr = []) := by
 unfold seg_In at h
 refine Ctr.mk (args := [.pointer (some ⟨b_m, 0, none⟩), vl1]) Try.func74 rfl rfl (fun R0 w0 B => ?_)
 refine Qe (Qb (sAs rfl rfl rfl ?_))
 refine nW [(0, some (.pointer (some ⟨b_m, 0, none⟩))), (1, some vl1)] [some (Qd b_m 82 [vm1, vm2]), some (Qj u8S true vm2 vsm1 m.b none)] [Fact.sl Qf vm1 m.l, Fact.sl SegS vl1 l] [0, 1] [0, 1] [0, 1] rfl ?_
 refine Qe (Qe (Qb (sMv rfl rfl rfl ?_)))
 obtain ⟨read1, hx1, h⟩ := ob_e h
 refine Qt rfl (QW [2, 3, 4] (w_gmem_Mem_Read hx1) [0, 1] [0] rfl rfl rfl rfl rfl callee78 rfl rfl rfl rfl rfl) ?_
 rintro _ ⟨_, _, _, ⟨v1, rfl, rfl, rfl⟩, rfl⟩
 refine sMv rfl rfl rfl ?_
 refine Qa rfl (Qs rfl rfl rfl rfl rfl) ?_
 refine Qa rfl (Qs rfl rfl rfl rfl rfl) ?_
 refine sAs rfl rfl rfl ?_
 refine sAs rfl rfl rfl ?_
 refine nW [(0, some (.pointer (some ⟨b_m, 0, none⟩))), (1, some vl1), (6, some (vI read1.2))] [some (Qd b_m 82 [vm1, vm2]), some (Qj u8S true vm2 vsm1 m.b none)] [Fact.sl Qf vm1 m.l, Fact.sl SegS vl1 l] [0, 1, 6] [0, 1] [0, 1] rfl ?_
 refine Qe (Qb (sMv rfl rfl rfl ?_))
 refine Qa rfl (Qg rfl rfl rfl rfl rfl (QU (a := read1.2) (b := (0 : Int)))) ?_
 refine nW [(0, some (.pointer (some ⟨b_m, 0, none⟩))), (1, some vl1), (6, some (vI read1.2)), (16, some (vB (read1.2 != (0 : Int))))] [some (Qd b_m 82 [vm1, vm2]), some (Qj u8S true vm2 vsm1 m.b none)] [Fact.sl Qf vm1 m.l, Fact.sl SegS vl1 l] [0, 1, 6, 16] [0, 1] [0, 1] rfl ?_
 rcases bC (read1.2 != (0 : Int)) with hg1 | hg1
 ·replace h := br_t hg1 h
  refine Ql (cgb hg1) ?_
  refine Qe (Qb (sMv rfl rfl rfl ?_))
  refine sAs rfl rfl rfl ?_
  refine nW [(4, some (vI read1.2))] [some (Qd b_m 82 [vm1, vm2]), some (Qj u8S true vm2 vsm1 m.b none)] [Fact.sl Qf vm1 m.l] [4] [0, 1] [0] rfl ?_
  obtain rfl := Option.some.inj h
  exact Qn rfl rfl (resA (vs := [vI read1.2]) rfl ⟨rfl, trivial⟩) [0, 1] [] rfl rfl rfl ⟨rfl, rfl, rfl⟩
 ·replace h := br_f hg1 h
  refine Qm (cgb hg1) ?_
  refine Qr (Qe (Qe (Qb (sMv rfl rfl rfl ?_))))
  obtain ⟨check1, hx2, h⟩ := ob_e h
  refine Qt rfl (QO (w_seg_Check hx2) [] [1] rfl rfl rfl rfl rfl callee57 rfl rfl rfl rfl) ?_
  rintro _ ⟨_, _, _, ⟨rfl, rfl, rfl⟩, rfl⟩
  refine sAs rfl rfl rfl ?_
  refine nW [(0, some (.pointer (some ⟨b_m, 0, none⟩))), (1, some vl1), (7, some (vI check1))] [some (Qd b_m 82 [vm1, vm2]), some (Qj u8S true vm2 vsm1 m.b none)] [Fact.sl Qf vm1 m.l, Fact.sl SegS vl1 l] [0, 1, 7] [0, 1] [0, 1] rfl ?_
  refine Qe (Qb (sMv rfl rfl rfl ?_))
  refine Qa rfl (Qg rfl rfl rfl rfl rfl (QU (a := check1) (b := (0 : Int)))) ?_
  refine nW [(0, some (.pointer (some ⟨b_m, 0, none⟩))), (1, some vl1), (7, some (vI check1)), (21, some (vB (check1 != (0 : Int))))] [some (Qd b_m 82 [vm1, vm2]), some (Qj u8S true vm2 vsm1 m.b none)] [Fact.sl Qf vm1 m.l, Fact.sl SegS vl1 l] [0, 1, 7, 21] [0, 1] [0, 1] rfl ?_
  rcases bC (check1 != (0 : Int)) with hg2 | hg2
  ·replace h := br_t hg2 h
   refine Ql (cgb hg2) ?_
   refine Qe (Qb (sMv rfl rfl rfl ?_))
   refine sAs rfl rfl rfl ?_
   refine nW [(4, some (vI check1))] [some (Qd b_m 82 [vm1, vm2]), some (Qj u8S true vm2 vsm1 m.b none)] [Fact.sl Qf vm1 m.l] [4] [0, 1] [0] rfl ?_
   obtain rfl := Option.some.inj h
   exact Qn rfl rfl (resA (vs := [vI check1]) rfl ⟨rfl, trivial⟩) [0, 1] [] rfl rfl rfl ⟨rfl, rfl, rfl⟩
  ·replace h := br_f hg2 h
   refine Qm (cgb hg2) ?_
   refine Qr (Qe (Qe (Qb (sMv rfl rfl rfl ?_))))
   refine Qa rfl (QB rfl rfl rfl rfl Try.underlying25 (i := 1) rfl) ?_
   refine sMv rfl rfl rfl ?_
   refine nW [(0, some (.pointer (some ⟨b_m, 0, none⟩))), (23, some vl1), (24, some (vI (len l))), (25, some (vI (0 : Int)))] [some (Qd b_m 82 [vm1, vm2]), some (Qj u8S true vm2 vsm1 m.b none)] [Fact.sl Qf vm1 m.l, Fact.sl SegS vl1 l] [0, 23, 24, 25] [0, 1] [0, 1] rfl ?_
   refine Qz (Zc (σ := Int) [0, 23, 24, 25] [0, 1] [0, 1] (fun s => ⟨[(0, some (.pointer (some ⟨b_m, 0, none⟩))), (23, some vl1), (24, some (vI (len l))), (25, some (vI s))], [some (Qd b_m 82 [vm1, vm2]), some (Qj u8S true vm2 vsm1 m.b none)], [Fact.sl Qf vm1 m.l, Fact.sl SegS vl1 l]⟩) (fun nf1 s => seg_InL1 m l nf1 s = some r) fuel (0 : Int) h rfl rfl rfl rfl rfl (fun s h => by cases h) ?_)
   rintro nf1 x1 h
   replace h : seg_InL1B m l (seg_InL1 m l nf1) x1 = some r := h
   unfold seg_InL1B at h
   refine Qe (Qb (Qa rfl (Qg rfl rfl rfl rfl rfl (QK (a := x1) (b := len l))) ?_))
   refine QT (Qe ?_)
   rcases bC (decide (x1 < (len l))) with hg3 | hg3
   ·replace h := br_t hg3 h
    refine Ql (cgb hg3) ?_
    refine Qr (Qe (Qz (Qe (Qb ?_))))
    obtain ⟨s1, hx3, h⟩ := ob_e h
    refine Qq rfl (QA rfl rfl rfl rfl rfl XS (i := 1) rfl hx3) fun p1 => ?_
    refine Qa rfl (XR (vs := [vU64 s1.At, vU32 s1.Len, vB s1.Write]) rfl rfl rfl rfl tyF29 (i := 2) rfl rfl) ?_
    refine Qq rfl (Zq rfl rfl rfl tyZ29) fun b1 => ?_
    refine Qa rfl (QE (cs' := [vU64 s1.At, vU32 s1.Len, vB s1.Write]) rfl rfl rfl rfl tyF29 (i := 2) rfl rfl rfl (ZE rfl) rfl) ?_
    refine nW [(0, some (.pointer (some ⟨b_m, 0, none⟩))), (23, some vl1), (24, some (vI (len l))), (25, some (vI x1)), (9, some (.pointer (some ⟨b1, 0, none⟩)))] [some (Qd b_m 82 [vm1, vm2]), some (Qj u8S true vm2 vsm1 m.b none), some (Qd b1 29 [vU64 s1.At, vU32 s1.Len, vB s1.Write])] [Fact.sl Qf vm1 m.l, Fact.sl SegS vl1 l] [0, 23, 24, 25, 9] [0, 1, 2] [0, 1] rfl ?_
    refine Qe (Qb (sMv rfl rfl rfl ?_))
    refine Qa rfl (Qo rfl rfl rfl rfl fldF29x0) ?_
    refine Qa rfl (Qp rfl rfl rfl rfl Xc (i := 2) rfl rfl) ?_
    refine Qa rfl (Qo rfl rfl rfl rfl ZV) ?_
    refine Qa rfl (Qp rfl rfl rfl rfl tyF27 (i := 2) rfl rfl) ?_
    refine Qa rfl (QM rfl rfl rfl rfl (Zm (n := s1.Len) Try.underlying27 Try.underlying22)) ?_
    obtain ⟨has1, hx4, h⟩ := ob_e h
    refine Qt rfl (QW [3, 4, 2] (w_gmem_Mem_Has hx4) [0, 1] [0] rfl rfl rfl rfl rfl callee79 rfl rfl rfl rfl rfl) ?_
    rintro _ ⟨_, _, _, ⟨rfl, rfl, rfl⟩, rfl⟩
    refine Qa rfl (OpT_not rfl rfl rfl rfl) ?_
    refine nW [(0, some (.pointer (some ⟨b_m, 0, none⟩))), (23, some vl1), (24, some (vI (len l))), (25, some (vI x1)), (36, some (vB (!has1)))] [some (Qd b_m 82 [vm1, vm2]), some (Qj u8S true vm2 vsm1 m.b none)] [Fact.sl Qf vm1 m.l, Fact.sl SegS vl1 l] [0, 23, 24, 25, 36] [0, 1] [0, 1] rfl ?_
    rcases bC ((!has1)) with hg4 | hg4
    ·replace h := br_t hg4 h
     refine Ql (cgb hg4) ?_
     refine Qe (Qb (sAs rfl rfl rfl ?_))
     refine nW [(4, some (vI (5 : Int)))] [some (Qd b_m 82 [vm1, vm2]), some (Qj u8S true vm2 vsm1 m.b none)] [Fact.sl Qf vm1 m.l] [4] [0, 1] [0] rfl ?_
     obtain rfl := Option.some.inj h
     exact Qn rfl rfl (resA (vs := [vI (5 : Int)]) rfl ⟨rfl, trivial⟩) [0, 1] [] rfl rfl rfl ⟨rfl, rfl, rfl⟩
    ·replace h := br_f hg4 h
     refine Qm (cgb hg4) ?_
     refine Qr (Zk (Qb (Qa rfl (Qg rfl rfl rfl rfl rfl (Qx (a := x1) (b := (1 : Int)))) ?_)))
     refine sMv rfl rfl rfl ?_
     refine nW [(0, some (.pointer (some ⟨b_m, 0, none⟩))), (23, some vl1), (24, some (vI (len l))), (25, some (vI (wi (x1 + (1 : Int)))))] [some (Qd b_m 82 [vm1, vm2]), some (Qj u8S true vm2 vsm1 m.b none)] [Fact.sl Qf vm1 m.l, Fact.sl SegS vl1 l] [0, 23, 24, 25] [0, 1] [0, 1] rfl ?_
     exact QN (wi (x1 + (1 : Int))) h [0, 23, 24, 25] [0, 1] [0, 1] rfl rfl rfl rfl rfl
   ·replace h := br_f hg3 h
    refine Qm (cgb hg3) ?_
    refine Zf _ rfl ?_
    refine Qe (Qb (sAs rfl rfl rfl ?_))
    refine nW [(4, some (vI (0 : Int)))] [some (Qd b_m 82 [vm1, vm2]), some (Qj u8S true vm2 vsm1 m.b none)] [Fact.sl Qf vm1 m.l] [4] [0, 1] [0] rfl ?_
    obtain rfl := Option.some.inj h
    exact Qn rfl rfl (resA (vs := [vI (0 : Int)]) rfl ⟨rfl, trivial⟩) [0, 1] [] rfl rfl rfl ⟨rfl, rfl, rfl⟩

set_option maxRecDepth 100000 in
set_option maxHeartbeats 4000000 in
theorem w_seg_Gather {m : gmem_Mem} {l : List Seg} {b_m : Nat} {vm1 : Value} {vm2 : Value} {vsm1 : List Value} {vl1 : Value} {r : ((List UInt8) × Int)} (h : seg_Gather m l = some r) :
  Ctr Try.prog 75 #[.pointer (some ⟨b_m, 0, none⟩), vl1] [(Qd b_m 82 [vm1, vm2]), (Qj u8S true vm2 vsm1 m.b none)] [Fact.sl Qf vm1 m.l, Fact.sl SegS vl1 l]
   (fun rv own shr => ∃ (w1 : Value), rv = .tuple #[w1, vI r.2] ∧ own = [(Qd b_m 82 [vm1, vm2]), (Qj u8S true vm2 vsm1 m.b none), (rowS u8S w1 r.1)] ∧ shr = []) := by
 unfold seg_Gather at h
 refine Ctr.mk (args := [.pointer (some ⟨b_m, 0, none⟩), vl1]) Try.func75 rfl rfl (fun R0 w0 B => ?_)
 refine Qe (Qb (sAs rfl rfl rfl ?_))
 refine sAs rfl rfl rfl ?_
 refine nW [(0, some (.pointer (some ⟨b_m, 0, none⟩))), (1, some vl1)] [some (Qd b_m 82 [vm1, vm2]), some (Qj u8S true vm2 vsm1 m.b none)] [Fact.sl Qf vm1 m.l, Fact.sl SegS vl1 l] [0, 1] [0, 1] [0, 1] rfl ?_
 refine Qe (Qe (Qb (sMv rfl rfl rfl ?_)))
 refine sMv rfl rfl rfl ?_
 obtain ⟨in1, hx1, h⟩ := ob_e h
 refine Qt rfl (QW [2, 3] (w_seg_In hx1) [0, 1] [0, 1] rfl rfl rfl rfl rfl callee74 rfl rfl rfl rfl rfl) ?_
 rintro _ ⟨_, _, _, ⟨rfl, rfl, rfl⟩, rfl⟩
 refine sAs rfl rfl rfl ?_
 refine nW [(0, some (.pointer (some ⟨b_m, 0, none⟩))), (1, some vl1), (6, some (vI in1))] [some (Qd b_m 82 [vm1, vm2]), some (Qj u8S true vm2 vsm1 m.b none)] [Fact.sl Qf vm1 m.l, Fact.sl SegS vl1 l] [0, 1, 6] [0, 1] [0, 1] rfl ?_
 refine Qe (Qb (sMv rfl rfl rfl ?_))
 refine Qa rfl (Qg rfl rfl rfl rfl rfl (QU (a := in1) (b := (0 : Int)))) ?_
 refine nW [(0, some (.pointer (some ⟨b_m, 0, none⟩))), (1, some vl1), (6, some (vI in1)), (16, some (vB (in1 != (0 : Int))))] [some (Qd b_m 82 [vm1, vm2]), some (Qj u8S true vm2 vsm1 m.b none)] [Fact.sl Qf vm1 m.l, Fact.sl SegS vl1 l] [0, 1, 6, 16] [0, 1] [0, 1] rfl ?_
 rcases bC (in1 != (0 : Int)) with hg1 | hg1
 ·replace h := br_t hg1 h
  refine Ql (cgb hg1) ?_
  refine Qe (Qb (sMv rfl rfl rfl ?_))
  refine sAs rfl rfl rfl ?_
  refine sAs rfl rfl rfl ?_
  refine nW [(4, some (.slice none 0 0)), (5, some (vI in1))] [some (Qd b_m 82 [vm1, vm2]), some (Qj u8S true vm2 vsm1 m.b none)] [Fact.sl Qf vm1 m.l] [4, 5] [0, 1] [0] rfl ?_
  refine QI u8S ?_
  obtain rfl := Option.some.inj h
  exact Qn rfl rfl (resA (vs := [.slice none 0 0, vI in1]) rfl ⟨rfl, rfl, trivial⟩) [0, 1, 2] [] rfl rfl rfl ⟨(.slice none 0 0), rfl, rfl, rfl⟩
 ·replace h := br_f hg1 h
  refine Qm (cgb hg1) ?_
  refine Qr (Qe (Qb (sAs rfl rfl rfl ?_)))
  refine nW [(0, some (.pointer (some ⟨b_m, 0, none⟩))), (1, some vl1), (7, some (.slice none 0 0))] [some (Qd b_m 82 [vm1, vm2]), some (Qj u8S true vm2 vsm1 m.b none)] [Fact.sl Qf vm1 m.l, Fact.sl SegS vl1 l] [0, 1, 7] [0, 1] [0, 1] rfl ?_
  refine Qe (Qe (Qb (sMv rfl rfl rfl ?_)))
  obtain ⟨part1, hx2, h⟩ := ob_e h
  refine Qt rfl (QO (w_seg_Part hx2) [] [1] rfl rfl rfl rfl rfl callee58 rfl rfl rfl rfl) ?_
  rintro _ ⟨v1, _, _, ⟨_, rfl, rfl, rfl⟩, rfl⟩
  refine Qa rfl (Kp rfl rfl rfl rfl Try.underlying25 (i := 2) rfl) ?_
  refine sMv rfl rfl rfl ?_
  refine nW [(0, some (.pointer (some ⟨b_m, 0, none⟩))), (7, some (.slice none 0 0)), (19, some v1), (20, some (vI (len part1))), (21, some (vI (0 : Int)))] [some (Qd b_m 82 [vm1, vm2]), some (Qj u8S true vm2 vsm1 m.b none), some (rowS SegS v1 part1)] [Fact.sl Qf vm1 m.l] [0, 7, 19, 20, 21] [0, 1, 2] [0] rfl ?_
  refine Qz (QI (Shape.slice u8S) ?_)
  refine Zc (σ := (List (List UInt8)) × (List Seg) × Int × Value × Value) [0, 7, 19, 20, 21] [0, 1, 3, 2] [0] (fun s => ⟨[(0, some (.pointer (some ⟨b_m, 0, none⟩))), (7, some (s.2.2.2.1)), (19, some (s.2.2.2.2)), (20, some (vI (len part1))), (21, some (vI s.2.2.1))], [some (Qd b_m 82 [vm1, vm2]), some (Qj u8S true vm2 vsm1 m.b none), some (rowS (Shape.slice u8S) s.2.2.2.1 s.1), some (rowS SegS s.2.2.2.2 s.2.1)], [Fact.sl Qf vm1 m.l]⟩) (fun nf1 s => YX m part1 nf1 s.1 s.2.1 s.2.2.1 = some r) fuel ([], part1, (0 : Int), (.slice none 0 0), v1) h rfl rfl rfl rfl rfl (fun s h => by cases h) ?_
  rintro nf1 ⟨parts1, l1, x1, v2, v3⟩ h
  replace h : seg_GatherL1B m part1 (YX m part1 nf1) parts1 l1 x1 = some r := h
  unfold seg_GatherL1B at h
  refine Qe (Qb (Qa rfl (Qg rfl rfl rfl rfl rfl (QK (a := x1) (b := len part1))) ?_))
  refine QT (Qe ?_)
  rcases bC (decide (x1 < (len part1))) with hg2 | hg2
  ·replace h := br_t hg2 h
   refine Ql (cgb hg2) ?_
   refine Qr (Qe (Qz (Qe (Qb ?_))))
   obtain ⟨s1, hx3, h⟩ := ob_e h
   refine Qa rfl (OpT_idxO rfl rfl rfl rfl rfl XS (i := 3) rfl hx3) ?_
   refine Qa rfl (OpT_loadOA (S := SegS) (vs := [vU64 s1.At, vU32 s1.Len, vB s1.Write]) rfl rfl rfl rfl rfl tyF29 (i := 3) rfl hx3 rfl) ?_
   refine Qq rfl (Zq rfl rfl rfl tyZ29) fun b1 => ?_
   refine Qa rfl (QE (cs' := [vU64 s1.At, vU32 s1.Len, vB s1.Write]) rfl rfl rfl rfl tyF29 (i := 4) rfl rfl rfl (ZE rfl) rfl) ?_
   refine nW [(0, some (.pointer (some ⟨b_m, 0, none⟩))), (7, some v2), (19, some v3), (20, some (vI (len part1))), (21, some (vI x1)), (9, some (.pointer (some ⟨b1, 0, none⟩)))] [some (Qd b_m 82 [vm1, vm2]), some (Qj u8S true vm2 vsm1 m.b none), some (rowS (Shape.slice u8S) v2 parts1), some (rowS SegS v3 l1), some (Qd b1 29 [vU64 s1.At, vU32 s1.Len, vB s1.Write])] [Fact.sl Qf vm1 m.l] [0, 7, 19, 20, 21, 9] [0, 1, 2, 3, 4] [0] rfl ?_
   refine Qe (Qb (sMv rfl rfl rfl ?_))
   refine Qa rfl (Qo rfl rfl rfl rfl fldF29x0) ?_
   refine Qa rfl (Qp rfl rfl rfl rfl Xc (i := 4) rfl rfl) ?_
   refine Qa rfl (Qo rfl rfl rfl rfl ZV) ?_
   refine Qa rfl (Qp rfl rfl rfl rfl tyF27 (i := 4) rfl rfl) ?_
   refine Qa rfl (QM rfl rfl rfl rfl (cnv_u32_i (n := s1.Len) Try.underlying27 Try.underlying3)) ?_
   obtain ⟨read1, hx4, h⟩ := ob_e h
   refine Qt rfl (QW [5, 6, 2, 3, 4, 7] (w_gmem_Mem_Read hx4) [0, 1] [0] rfl rfl rfl rfl rfl callee78 rfl rfl rfl rfl rfl) ?_
   rintro _ ⟨_, _, _, ⟨v4, rfl, rfl, rfl⟩, rfl⟩
   refine sMv rfl rfl rfl ?_
   refine Qa rfl (Qs rfl rfl rfl rfl rfl) ?_
   refine Qa rfl (Qs rfl rfl rfl rfl rfl) ?_
   refine sAs rfl rfl rfl ?_
   refine sAs rfl rfl rfl ?_
   refine nW [(0, some (.pointer (some ⟨b_m, 0, none⟩))), (7, some v2), (19, some v3), (20, some (vI (len part1))), (21, some (vI x1)), (10, some v4), (11, some (vI read1.2))] [some (Qd b_m 82 [vm1, vm2]), some (Qj u8S true vm2 vsm1 m.b none), some (rowS (Shape.slice u8S) v2 parts1), some (rowS SegS v3 l1), some (rowS u8S v4 read1.1)] [Fact.sl Qf vm1 m.l] [0, 7, 19, 20, 21, 10, 11] [0, 1, 2, 3, 5] [0] rfl ?_
   refine Qe (Qe (Qb (sMv rfl rfl rfl ?_)))
   refine Qa rfl (Qg rfl rfl rfl rfl rfl (QU (a := read1.2) (b := (0 : Int)))) ?_
   refine nW [(0, some (.pointer (some ⟨b_m, 0, none⟩))), (7, some v2), (19, some v3), (20, some (vI (len part1))), (21, some (vI x1)), (10, some v4), (11, some (vI read1.2)), (36, some (vB (read1.2 != (0 : Int))))] [some (Qd b_m 82 [vm1, vm2]), some (Qj u8S true vm2 vsm1 m.b none), some (rowS (Shape.slice u8S) v2 parts1), some (rowS SegS v3 l1), some (rowS u8S v4 read1.1)] [Fact.sl Qf vm1 m.l] [0, 7, 19, 20, 21, 10, 11, 36] [0, 1, 2, 3, 4] [0] rfl ?_
   rcases bC (read1.2 != (0 : Int)) with hg3 | hg3
   ·replace h := br_t hg3 h
    refine Ql (cgb hg3) ?_
    refine Qe (Qb (sMv rfl rfl rfl ?_))
    refine sAs rfl rfl rfl ?_
    refine sAs rfl rfl rfl ?_
    refine nW [(4, some (.slice none 0 0)), (5, some (vI read1.2))] [some (Qd b_m 82 [vm1, vm2]), some (Qj u8S true vm2 vsm1 m.b none)] [Fact.sl Qf vm1 m.l] [4, 5] [0, 1] [0] rfl ?_
    refine QI u8S ?_
    obtain rfl := Option.some.inj h
    exact Qn rfl rfl (resA (vs := [.slice none 0 0, vI read1.2]) rfl ⟨rfl, rfl, trivial⟩) [0, 1, 2] [] rfl rfl rfl ⟨(.slice none 0 0), rfl, rfl, rfl⟩
   ·replace h := br_f hg3 h
    refine Qm (cgb hg3) ?_
    refine Qr (Qb (sMv rfl rfl rfl ?_))
    refine sMv rfl rfl rfl ?_
    refine Zn (i := 4) rfl ?_
    refine Qq rfl (YV (Shape.slice u8S) (vs := [v4]) (xs := [read1.1]) rfl rfl rfl rfl rfl slF80 (isl_cons (is_sl (i := 1) rfl) isl_nil) rfl rfl rfl (rel_cons (rel_sl (i := 1) rfl) (rel_nil rfl))) fun v5 => ?_
    refine Zn (i := 5) rfl ?_
    obtain ⟨hc1, h⟩ := Zi h
    refine Qq rfl (ZS rfl rfl rfl rfl rfl slF80 (i := 2) (j := 2) rfl rfl hc1) fun v6 => ?_
    refine sAs rfl rfl rfl ?_
    refine nW [(0, some (.pointer (some ⟨b_m, 0, none⟩))), (7, some v6), (19, some v3), (20, some (vI (len part1))), (21, some (vI x1))] [some (Qd b_m 82 [vm1, vm2]), some (Qj u8S true vm2 vsm1 m.b none), some (rowS (Shape.slice u8S) v6 (parts1 ++ [read1.1])), some (rowS SegS v3 l1)] [Fact.sl Qf vm1 m.l] [0, 7, 19, 20, 21] [0, 1, 2, 3] [0] rfl ?_
    refine Zk (Qb (Qa rfl (Qg rfl rfl rfl rfl rfl (Qx (a := x1) (b := (1 : Int)))) ?_))
    refine sMv rfl rfl rfl ?_
    refine nW [(0, some (.pointer (some ⟨b_m, 0, none⟩))), (7, some v6), (19, some v3), (20, some (vI (len part1))), (21, some (vI (wi (x1 + (1 : Int)))))] [some (Qd b_m 82 [vm1, vm2]), some (Qj u8S true vm2 vsm1 m.b none), some (rowS (Shape.slice u8S) v6 (parts1 ++ [read1.1])), some (rowS SegS v3 l1)] [Fact.sl Qf vm1 m.l] [0, 7, 19, 20, 21] [0, 1, 2, 3] [0] rfl ?_
    exact QN (parts1 ++ [read1.1], l1, wi (x1 + (1 : Int)), v6, v3) h [0, 7, 19, 20, 21] [0, 1, 2, 3] [0] rfl rfl rfl rfl rfl
  ·replace h := br_f hg2 h
   refine Qm (cgb hg2) ?_
   refine Zf _ rfl ?_
   refine Qe (Qb (sMv rfl rfl rfl ?_))
   obtain ⟨concat1, hx5, h⟩ := ob_e h
   refine Qt rfl (Zj [2] [0, 1, 2, 3, 4] (YW hx5) [] rfl rfl rfl rfl rfl callee40 rfl rfl rfl rfl rfl rfl (QV (ZO 2 rfl rfl) Xe) (by rintro _ _ _ ⟨_, rfl, rfl, rfl⟩; exact ⟨rfl, (ZL (ri_row (S := u8S) rfl _ _) Ye)⟩)) ?_
   rintro _ ⟨v7, _, _, ⟨_, rfl, rfl, rfl⟩, rfl⟩
   refine sAs rfl rfl rfl ?_
   refine sAs rfl rfl rfl ?_
   refine nW [(4, some v7), (5, some (vI (0 : Int)))] [some (Qd b_m 82 [vm1, vm2]), some (Qj u8S true vm2 vsm1 m.b none), some (rowS u8S v7 concat1)] [Fact.sl Qf vm1 m.l] [4, 5] [0, 1, 4] [0] rfl ?_
   obtain rfl := Option.some.inj h
   exact Qn rfl rfl (resA (vs := [v7, vI (0 : Int)]) rfl ⟨rfl, rfl, trivial⟩) [0, 1, 2] [] rfl rfl rfl ⟨v7, rfl, rfl, rfl⟩

set_option maxRecDepth 100000 in
set_option maxHeartbeats 4000000 in
theorem w_netdrv_writtenOf {m : gmem_Mem} {l : List Seg} {np2 : UInt32} {b_m : Nat} {vm1 : Value} {vm2 : Value} {vsm1 : List Value} {vl1 : Value} {r : ((List UInt8) × Int)} (h : Yf m l np2 = some r) :
  Ctr Try.prog 67 #[.pointer (some ⟨b_m, 0, none⟩), vl1, vU32 np2] [(Qd b_m 82 [vm1, vm2]), (Qj u8S true vm2 vsm1 m.b none)] [Fact.sl Qf vm1 m.l, Fact.sl SegS vl1 l]
   (fun rv own shr => ∃ (w1 : Value), rv = .tuple #[w1, vI r.2] ∧ own = [(Qd b_m 82 [vm1, vm2]), (Qj u8S true vm2 vsm1 m.b none), (rowS u8S w1 r.1)] ∧ shr = []) := by
 unfold Yf at h
 refine Ctr.mk (args := [.pointer (some ⟨b_m, 0, none⟩), vl1, vU32 np2]) Try.func67 rfl rfl (fun R0 w0 B => ?_)
 refine Qe (Qb (sAs rfl rfl rfl ?_))
 refine sAs rfl rfl rfl ?_
 refine nW [(0, some (.pointer (some ⟨b_m, 0, none⟩))), (1, some vl1), (2, some (vU32 np2))] [some (Qd b_m 82 [vm1, vm2]), some (Qj u8S true vm2 vsm1 m.b none)] [Fact.sl Qf vm1 m.l, Fact.sl SegS vl1 l] [0, 1, 2] [0, 1] [0, 1] rfl ?_
 refine Qe (Qe (Qb (sMv rfl rfl rfl ?_)))
 refine sMv rfl rfl rfl ?_
 obtain ⟨in1, hx1, h⟩ := ob_e h
 refine Qt rfl (QW [2, 3] (w_seg_In hx1) [0, 1] [0, 1] rfl rfl rfl rfl rfl callee74 rfl rfl rfl rfl rfl) ?_
 rintro _ ⟨_, _, _, ⟨rfl, rfl, rfl⟩, rfl⟩
 refine sAs rfl rfl rfl ?_
 refine nW [(0, some (.pointer (some ⟨b_m, 0, none⟩))), (1, some vl1), (2, some (vU32 np2)), (8, some (vI in1))] [some (Qd b_m 82 [vm1, vm2]), some (Qj u8S true vm2 vsm1 m.b none)] [Fact.sl Qf vm1 m.l, Fact.sl SegS vl1 l] [0, 1, 2, 8] [0, 1] [0, 1] rfl ?_
 refine Qe (Qb (sMv rfl rfl rfl ?_))
 refine Qa rfl (Qg rfl rfl rfl rfl rfl (QU (a := in1) (b := (0 : Int)))) ?_
 refine nW [(0, some (.pointer (some ⟨b_m, 0, none⟩))), (1, some vl1), (2, some (vU32 np2)), (8, some (vI in1)), (19, some (vB (in1 != (0 : Int))))] [some (Qd b_m 82 [vm1, vm2]), some (Qj u8S true vm2 vsm1 m.b none)] [Fact.sl Qf vm1 m.l, Fact.sl SegS vl1 l] [0, 1, 2, 8, 19] [0, 1] [0, 1] rfl ?_
 rcases bC (in1 != (0 : Int)) with hg1 | hg1
 ·replace h := br_t hg1 h
  refine Ql (cgb hg1) ?_
  refine Qe (Qb (sMv rfl rfl rfl ?_))
  refine sAs rfl rfl rfl ?_
  refine sAs rfl rfl rfl ?_
  refine nW [(6, some (.slice none 0 0)), (7, some (vI in1))] [some (Qd b_m 82 [vm1, vm2]), some (Qj u8S true vm2 vsm1 m.b none)] [Fact.sl Qf vm1 m.l] [6, 7] [0, 1] [0] rfl ?_
  refine QI u8S ?_
  obtain rfl := Option.some.inj h
  exact Qn rfl rfl (resA (vs := [.slice none 0 0, vI in1]) rfl ⟨rfl, rfl, trivial⟩) [0, 1, 2] [] rfl rfl rfl ⟨(.slice none 0 0), rfl, rfl, rfl⟩
 ·replace h := br_f hg1 h
  refine Qm (cgb hg1) ?_
  refine Qr (Qe (Qb (sMv rfl rfl rfl ?_)))
  obtain ⟨part1, hx2, h⟩ := ob_e h
  refine Qt rfl (QO (w_seg_Part hx2) [] [1] rfl rfl rfl rfl rfl callee58 rfl rfl rfl rfl) ?_
  rintro _ ⟨v1, _, _, ⟨_, rfl, rfl, rfl⟩, rfl⟩
  refine sAs rfl rfl rfl ?_
  refine nW [(0, some (.pointer (some ⟨b_m, 0, none⟩))), (2, some (vU32 np2)), (9, some v1)] [some (Qd b_m 82 [vm1, vm2]), some (Qj u8S true vm2 vsm1 m.b none), some (rowS SegS v1 part1)] [Fact.sl Qf vm1 m.l] [0, 2, 9] [0, 1, 2] [0] rfl ?_
  refine Qe (Qe (Qb (sMv rfl rfl rfl ?_)))
  obtain ⟨total1, hx3, h⟩ := ob_e h
  refine Qt rfl (Zj [2] [0, 1, 2] (w_seg_Total hx3) [] rfl rfl rfl rfl rfl callee72 rfl rfl rfl rfl rfl rfl (QV (ZO 2 rfl rfl) Xe) (by rintro _ _ _ ⟨rfl, rfl, rfl⟩; exact ⟨rfl, Ye⟩)) ?_
  rintro _ ⟨_, _, _, ⟨rfl, rfl, rfl⟩, rfl⟩
  refine sMv rfl rfl rfl ?_
  refine Qa rfl (Qs rfl rfl rfl rfl rfl) ?_
  refine Qa rfl (Qs rfl rfl rfl rfl rfl) ?_
  refine sAs rfl rfl rfl ?_
  refine sAs rfl rfl rfl ?_
  refine nW [(0, some (.pointer (some ⟨b_m, 0, none⟩))), (2, some (vU32 np2)), (9, some v1), (11, some (vU64 total1.2))] [some (Qd b_m 82 [vm1, vm2]), some (Qj u8S true vm2 vsm1 m.b none), some (rowS SegS v1 part1)] [Fact.sl Qf vm1 m.l] [0, 2, 9, 11] [0, 1, 2] [0] rfl ?_
  refine Qe (Qb (sMv rfl rfl rfl ?_))
  refine Qa rfl (QM rfl rfl rfl rfl (Zm (n := np2) Try.underlying27 Try.underlying22)) ?_
  refine sMv rfl rfl rfl ?_
  refine Qa rfl (Qg rfl rfl rfl rfl rfl (Ys (a := np2.toUInt64) (b := total1.2))) ?_
  refine nW [(0, some (.pointer (some ⟨b_m, 0, none⟩))), (2, some (vU32 np2)), (9, some v1), (31, some (vB (decide (np2.toUInt64 > total1.2))))] [some (Qd b_m 82 [vm1, vm2]), some (Qj u8S true vm2 vsm1 m.b none), some (rowS SegS v1 part1)] [Fact.sl Qf vm1 m.l] [0, 2, 9, 31] [0, 1, 2] [0] rfl ?_
  rcases bC (decide (np2.toUInt64 > total1.2)) with hg2 | hg2
  ·replace h := br_t hg2 h
   refine Ql (cgb hg2) ?_
   refine Qe (Qb (sAs rfl rfl rfl ?_))
   refine sAs rfl rfl rfl ?_
   refine nW [(6, some (.slice none 0 0)), (7, some (vI (4 : Int)))] [some (Qd b_m 82 [vm1, vm2]), some (Qj u8S true vm2 vsm1 m.b none)] [Fact.sl Qf vm1 m.l] [6, 7] [0, 1] [0] rfl ?_
   refine QI u8S ?_
   obtain rfl := Option.some.inj h
   exact Qn rfl rfl (resA (vs := [.slice none 0 0, vI (4 : Int)]) rfl ⟨rfl, rfl, trivial⟩) [0, 1, 2] [] rfl rfl rfl ⟨(.slice none 0 0), rfl, rfl, rfl⟩
  ·replace h := br_f hg2 h
   refine Qm (cgb hg2) ?_
   refine Qr (Qe (Qe (Qb (sMv rfl rfl rfl ?_))))
   refine Qa rfl (Kp rfl rfl rfl rfl Try.underlying25 (i := 2) rfl) ?_
   refine sMv rfl rfl rfl ?_
   refine nW [(0, some (.pointer (some ⟨b_m, 0, none⟩))), (2, some (vU32 np2)), (9, some v1), (33, some (vI (len part1))), (34, some (vI (0 : Int)))] [some (Qd b_m 82 [vm1, vm2]), some (Qj u8S true vm2 vsm1 m.b none), some (rowS SegS v1 part1)] [Fact.sl Qf vm1 m.l] [0, 2, 9, 33, 34] [0, 1, 2] [0] rfl ?_
   refine Qz (Zc (σ := (List Seg) × Int × Value) [0, 2, 9, 33, 34] [0, 1, 2] [0] (fun s => ⟨[(0, some (.pointer (some ⟨b_m, 0, none⟩))), (2, some (vU32 np2)), (9, some (s.2.2)), (33, some (vI (len part1))), (34, some (vI s.2.1))], [some (Qd b_m 82 [vm1, vm2]), some (Qj u8S true vm2 vsm1 m.b none), some (rowS SegS s.2.2 s.1)], [Fact.sl Qf vm1 m.l]⟩) (fun nf1 s => ZY m np2 part1 nf1 s.1 s.2.1 = some r) fuel (part1, (0 : Int), v1) h rfl rfl rfl rfl rfl (fun s h => by cases h) ?_)
   rintro nf1 ⟨l1, x1, v2⟩ h
   replace h : XW m np2 part1 (ZY m np2 part1 nf1) l1 x1 = some r := h
   unfold XW at h
   refine Qe (Qb (Qa rfl (Qg rfl rfl rfl rfl rfl (QK (a := x1) (b := len part1))) ?_))
   refine QT (Qe ?_)
   rcases bC (decide (x1 < (len part1))) with hg3 | hg3
   ·replace h := br_t hg3 h
    refine Ql (cgb hg3) ?_
    refine Qr (Qe (Qz (Qe (Qb (sMv rfl rfl rfl ?_)))))
    refine sAs rfl rfl rfl ?_
    refine nW [(0, some (.pointer (some ⟨b_m, 0, none⟩))), (2, some (vU32 np2)), (9, some v2), (33, some (vI (len part1))), (34, some (vI x1)), (12, some (vI x1))] [some (Qd b_m 82 [vm1, vm2]), some (Qj u8S true vm2 vsm1 m.b none), some (rowS SegS v2 l1)] [Fact.sl Qf vm1 m.l] [0, 2, 9, 33, 34, 12] [0, 1, 2] [0] rfl ?_
    refine Qb (sMv rfl rfl rfl ?_)
    refine sMv rfl rfl rfl ?_
    obtain ⟨s1, hx4, h⟩ := ob_e h
    refine Qa rfl (OpT_idxO rfl rfl rfl rfl rfl XS (i := 2) rfl hx4) ?_
    refine Qa rfl (OpT_fieldR (S := SegS) rfl rfl rfl rfl Km (i := 2) rfl hx4) ?_
    refine Qa rfl (OpT_storeOF (S := SegS) (u := (Seg.mk s1.At s1.Len false)) rfl rfl rfl rfl rfl tyF4 (i := 2) rfl hx4 rfl rfl rfl) ?_
    refine nW [(0, some (.pointer (some ⟨b_m, 0, none⟩))), (2, some (vU32 np2)), (9, some v2), (33, some (vI (len part1))), (34, some (vI x1))] [some (Qd b_m 82 [vm1, vm2]), some (Qj u8S true vm2 vsm1 m.b none), some (rowS SegS v2 (l1.set x1.toNat (Seg.mk s1.At s1.Len false)))] [Fact.sl Qf vm1 m.l] [0, 2, 9, 33, 34] [0, 1, 2] [0] rfl ?_
    refine Zk (Qb (Qa rfl (Qg rfl rfl rfl rfl rfl (Qx (a := x1) (b := (1 : Int)))) ?_))
    refine sMv rfl rfl rfl ?_
    refine nW [(0, some (.pointer (some ⟨b_m, 0, none⟩))), (2, some (vU32 np2)), (9, some v2), (33, some (vI (len part1))), (34, some (vI (wi (x1 + (1 : Int)))))] [some (Qd b_m 82 [vm1, vm2]), some (Qj u8S true vm2 vsm1 m.b none), some (rowS SegS v2 (l1.set x1.toNat (Seg.mk s1.At s1.Len false)))] [Fact.sl Qf vm1 m.l] [0, 2, 9, 33, 34] [0, 1, 2] [0] rfl ?_
    exact QN (l1.set x1.toNat (Seg.mk s1.At s1.Len false), wi (x1 + (1 : Int)), v2) h [0, 2, 9, 33, 34] [0, 1, 2] [0] rfl rfl rfl rfl rfl
   ·replace h := br_f hg3 h
    refine Qm (cgb hg3) ?_
    refine Zf _ rfl ?_
    refine Qe (Qb (sMv rfl rfl rfl ?_))
    refine sMv rfl rfl rfl ?_
    refine sMv rfl rfl rfl ?_
    refine Qa rfl (QM rfl rfl rfl rfl (Zm (n := np2) Try.underlying27 Try.underlying22)) ?_
    obtain ⟨cut1, hx5, h⟩ := ob_e h
    refine Qt rfl (Zj [2] [0, 1, 2, 3] (w_seg_Cut hx5) [] rfl rfl rfl rfl rfl callee73 rfl rfl rfl rfl rfl rfl (QV (ZO 2 rfl rfl) Xe) (by rintro _ _ _ ⟨_, rfl, rfl, rfl⟩; exact ⟨rfl, (ZL (ri_row (S := SegS) rfl _ _) Ye)⟩)) ?_
    rintro _ ⟨v3, _, _, ⟨_, rfl, rfl, rfl⟩, rfl⟩
    obtain ⟨gather1, hx6, h⟩ := ob_e h
    refine Qt rfl (Zj [3] [4, 5, 2, 3, 6] (w_seg_Gather hx6) [0, 1] rfl rfl rfl rfl rfl callee75 rfl rfl rfl rfl rfl rfl (QV (bor_shr 0 rfl) (QV (ZO 3 rfl rfl) Xe)) (by rintro _ _ _ ⟨_, rfl, rfl, rfl⟩; exact ⟨rfl, (ZL (ri_cells _ _ _) (ZL (ri_rows rfl _ _ _ _ _) (ZL (ri_row (S := u8S) rfl _ _) Ye)))⟩)) ?_
    rintro _ ⟨_, _, _, ⟨v4, rfl, rfl, rfl⟩, rfl⟩
    refine sMv rfl rfl rfl ?_
    refine Qa rfl (Qs rfl rfl rfl rfl rfl) ?_
    refine Qa rfl (Qs rfl rfl rfl rfl rfl) ?_
    refine sAs rfl rfl rfl ?_
    refine sAs rfl rfl rfl ?_
    refine nW [(13, some v4), (14, some (vI gather1.2))] [some (Qd b_m 82 [vm1, vm2]), some (Qj u8S true vm2 vsm1 m.b none), some (rowS u8S v4 gather1.1)] [Fact.sl Qf vm1 m.l] [13, 14] [0, 1, 4] [0] rfl ?_
    refine Qe (Qb (sMv rfl rfl rfl ?_))
    refine sMv rfl rfl rfl ?_
    refine sAs rfl rfl rfl ?_
    refine sAs rfl rfl rfl ?_
    refine nW [(6, some v4), (7, some (vI gather1.2))] [some (Qd b_m 82 [vm1, vm2]), some (Qj u8S true vm2 vsm1 m.b none), some (rowS u8S v4 gather1.1)] [Fact.sl Qf vm1 m.l] [6, 7] [0, 1, 2] [0] rfl ?_
    obtain rfl := Option.some.inj h
    exact Qn rfl rfl (resA (vs := [v4, vI gather1.2]) rfl ⟨rfl, rfl, trivial⟩) [0, 1, 2] [] rfl rfl rfl ⟨v4, rfl, rfl, rfl⟩

set_option maxRecDepth 100000 in
set_option maxHeartbeats 4000000 in
theorem w_netdrv_from_1 {arg0 : List (List Seg)} {arg1 : gmem_Mem} {arg2 : List UInt32} {parg01 : Value} {b_arg1 : Nat} {varg11 : Value} {varg12 : Value} {vsarg11 : List Value} {parg11 : Value} {parg21 : Value} {r : ((List UInt8) × (Option Clo66) × Int)} (h : YB arg0 arg1 arg2 = some r) :
  Ctr Try.prog 66 #[parg01, parg11, parg21] [(Qd b_arg1 82 [varg11, varg12]), (Qj u8S true varg12 vsarg11 arg1.b none)] [Fact.pt (Shape.slice (Shape.slice SegS)) parg01 arg0, Fact.sl Qf varg11 arg1.l, Fact.pt (ptrS b_arg1) parg11 (), Fact.pt (Shape.slice u32S) parg21 arg2]
   (fun rv own shr => ∃ (w1 : Value), ∃ (w2 : Value), rv = .tuple #[w1, w2, vI r.2.2] ∧ own = [(Qd b_arg1 82 [varg11, varg12]), (Qj u8S true varg12 vsarg11 arg1.b none), (rowS u8S w1 r.1)] ∧ shr = [Fact.clo (cl66 b_arg1) w2 r.2.1]) := by
 unfold YB at h
 refine Ctr.mk (args := [parg01, parg11, parg21]) Try.func66 rfl rfl (fun R0 w0 B => ?_)
 refine Qe (Qb (sAs rfl rfl rfl ?_))
 refine sAs rfl rfl rfl ?_
 refine sAs rfl rfl rfl ?_
 refine nW [(0, some parg01), (1, some parg11), (2, some parg21)] [some (Qd b_arg1 82 [varg11, varg12]), some (Qj u8S true varg12 vsarg11 arg1.b none)] [Fact.pt (Shape.slice (Shape.slice SegS)) parg01 arg0, Fact.sl Qf varg11 arg1.l, Fact.pt (ptrS b_arg1) parg11 (), Fact.pt (Shape.slice u32S) parg21 arg2] [0, 1, 2] [0, 1] [0, 1, 2, 3] rfl ?_
 refine Qe (Qe (Qb (Qq rfl (Xn rfl rfl rfl rfl tyF59 (i := 0) rfl) fun v1 => ?_)))
 refine Qa rfl (QB rfl rfl rfl rfl Try.underlying59 (i := 4) rfl) ?_
 refine Qa rfl (Qg rfl rfl rfl rfl rfl (Xh (a := len arg0) (b := (0 : Int)))) ?_
 refine nW [(0, some parg01), (1, some parg11), (2, some parg21), (10, some (vB ((len arg0) == (0 : Int))))] [some (Qd b_arg1 82 [varg11, varg12]), some (Qj u8S true varg12 vsarg11 arg1.b none)] [Fact.pt (Shape.slice (Shape.slice SegS)) parg01 arg0, Fact.sl Qf varg11 arg1.l, Fact.pt (ptrS b_arg1) parg11 (), Fact.pt (Shape.slice u32S) parg21 arg2] [0, 1, 2, 10] [0, 1] [0, 1, 2, 3] rfl ?_
 rcases bC ((len arg0) == (0 : Int)) with hg1 | hg1
 ·replace h := br_t hg1 h
  refine Ql (cgb hg1) ?_
  refine Qe (Qb (sAs rfl rfl rfl ?_))
  refine sAs rfl rfl rfl ?_
  refine sAs rfl rfl rfl ?_
  refine nW [(3, some (.slice none 0 0)), (4, some (.nilFunc)), (5, some (vI (4 : Int)))] [some (Qd b_arg1 82 [varg11, varg12]), some (Qj u8S true varg12 vsarg11 arg1.b none)] [Fact.sl Qf varg11 arg1.l] [3, 4, 5] [0, 1] [1] rfl ?_
  refine QI u8S ?_
  refine Tk_vs (vs_add (Fact.clo (cl66 b_arg1) .nilFunc (none : Option Clo66)) (fun _ _ _ h => by cases h)) ?_
  obtain rfl := Option.some.inj h
  exact Qn rfl rfl (resA (vs := [.slice none 0 0, .nilFunc, vI (4 : Int)]) rfl ⟨rfl, rfl, rfl, trivial⟩) [0, 1, 2] [1] rfl rfl rfl ⟨(.slice none 0 0), (.nilFunc), rfl, rfl, rfl⟩
 ·replace h := br_f hg1 h
  refine Qm (cgb hg1) ?_
  refine Qr (Qe (Zw (by kernel_rfl) ?_))
  refine TA_tb [0, 0, 2, 6, 0, 16, 48, 127, 255, 511, 511, 1023, 4095] (by kernel_rfl) fun htb => ?_
  refine Xy (fr' := [(0, some parg01), (1, some parg11), (2, some parg21)]) (own' := [some (Qd b_arg1 82 [varg11, varg12]), some (Qj u8S true varg12 vsarg11 arg1.b none)]) (shr' := [Fact.pt (Shape.slice (Shape.slice SegS)) parg01 arg0, Fact.sl Qf varg11 arg1.l, Fact.pt (ptrS b_arg1) parg11 (), Fact.pt (Shape.slice u32S) parg21 arg2]) [0, 1, 2] [0, 1] [0, 1, 2, 3] rfl rfl rfl rfl ?_
  obtain ⟨y1, hx1, h⟩ := ob_e h
  obtain ⟨y2, hx2, h⟩ := ob_e h
  refine Zs (lo := 0) (hi := 7) htb rfl rfl (by kernel_rfl) (fun c L a w => ∃ (v2 : Value), ∃ (p1 : Value), ∃ (v3 : Value), ∃ (v4 : Value), ∃ (p2 : Value), Sat c ⟨[(0, some parg01), (1, some parg11), (2, some parg21), (12, bif L 0 then some (.pointer (some ⟨b_arg1, 0, none⟩)) else none), (13, bif L 1 then some (v2) else none), (14, bif L 2 then some (p1) else none), (15, bif L 3 then some (v3) else none), (16, bif L 4 then some (v4) else none), (17, bif L 5 then some (p2) else none), (18, bif L 6 then some (vU32 y2) else none)], [(some (Qd b_arg1 82 [varg11, varg12]) : Option Res), (some (Qj u8S true varg12 vsarg11 arg1.b none) : Option Res)], [Fact.pt (Shape.slice (Shape.slice SegS)) parg01 arg0, Fact.sl Qf varg11 arg1.l, Fact.pt (ptrS b_arg1) parg11 (), Fact.pt (Shape.slice u32S) parg21 arg2, (bif L 1 then Fact.sl (Shape.slice SegS) v2 arg0 else Fact.tt), (bif L 2 then Fact.pt (Shape.slice SegS) p1 y1 else Fact.tt), (bif L 3 then Fact.sl SegS v3 y1 else Fact.tt), (bif L 4 then Fact.sl u32S v4 arg2 else Fact.tt), (bif L 5 then Fact.pt u32S p2 y2 else Fact.tt)]⟩ a w) [([], []), ([], [2, 3]), ([1], [3]), ([1, 2], []), ([], [5, 6]), ([4], [6]), ([4, 5], [])] rfl (by kernel_rfl) ?_ (Qc ?_ (Qc ?_ (Qc ?_ (Qc ?_ (Qc ?_ (Qc ?_ (Qc ?_ (QH)))))))) ?_
  ·intro a w hs
   exact ⟨undef, undef, undef, undef, undef, hs.startF [12, 13, 14, 15, 16, 17, 18] [0, 1] [0, 1, 2, 3, 4, 5, 6, 7, 8] rfl rfl rfl rfl⟩
  ·intro L a w hv K Q hK
   obtain ⟨v2, p1, v3, v4, p2, hs⟩ := hv
   exact wGo rfl rfl hs (QC rfl rfl rfl rfl tyF39 (i := 2) rfl rfl) fun a w hs => hK a w ⟨v2, p1, v3, v4, p2, pF hs 3 [0, 1] [0, 1, 2, 3, 4, 5, 6, 7, 8] rfl⟩
  ·intro L a w hv K Q hK
   obtain ⟨v2, p1, v3, v4, p2, hs⟩ := hv
   refine QG rfl rfl hs (Xn rfl rfl rfl rfl tyF59 (i := 0) rfl) ?_
   rintro _ ⟨v2', rfl⟩ a' w' hs'
   exact hK a' w' ⟨v2', p1, v3, v4, p2, hs'.putF (i := 4) rfl [0, 1] [0, 1, 2, 3, 9, 5, 6, 7, 8] rfl rfl rfl rfl⟩
  ·intro L a w hv K Q hK
   obtain ⟨v2, p1, v3, v4, p2, hs⟩ := hv
   refine QG rfl rfl hs (QA rfl rfl rfl rfl rfl slF59 (i := 4) rfl hx1) ?_
   rintro _ ⟨p1', rfl⟩ a' w' hs'
   exact hK a' w' ⟨v2, p1', v3, v4, p2, hs'.putF (i := 5) rfl [0, 1] [0, 1, 2, 3, 4, 9, 6, 7, 8] rfl rfl rfl rfl⟩
  ·intro L a w hv K Q hK
   obtain ⟨v2, p1, v3, v4, p2, hs⟩ := hv
   refine QG rfl rfl hs (Xn rfl rfl rfl rfl tyF25 (i := 5) rfl) ?_
   rintro _ ⟨v3', rfl⟩ a' w' hs'
   exact hK a' w' ⟨v2, p1, v3', v4, p2, hs'.putF (i := 6) rfl [0, 1] [0, 1, 2, 3, 4, 5, 9, 7, 8] rfl rfl rfl rfl⟩
  ·intro L a w hv K Q hK
   obtain ⟨v2, p1, v3, v4, p2, hs⟩ := hv
   refine QG rfl rfl hs (Xn rfl rfl rfl rfl tyF62 (i := 3) rfl) ?_
   rintro _ ⟨v4', rfl⟩ a' w' hs'
   exact hK a' w' ⟨v2, p1, v3, v4', p2, hs'.putF (i := 7) rfl [0, 1] [0, 1, 2, 3, 4, 5, 6, 9, 8] rfl rfl rfl rfl⟩
  ·intro L a w hv K Q hK
   obtain ⟨v2, p1, v3, v4, p2, hs⟩ := hv
   refine QG rfl rfl hs (QA rfl rfl rfl rfl rfl slF62 (i := 7) rfl hx2) ?_
   rintro _ ⟨p2', rfl⟩ a' w' hs'
   exact hK a' w' ⟨v2, p1, v3, v4, p2', hs'.putF (i := 8) rfl [0, 1] [0, 1, 2, 3, 4, 5, 6, 7, 9] rfl rfl rfl rfl⟩
  ·intro L a w hv K Q hK
   obtain ⟨v2, p1, v3, v4, p2, hs⟩ := hv
   exact wGo rfl rfl hs (QC rfl rfl rfl rfl tyF27 (i := 8) rfl rfl) fun a w hs => hK a w ⟨v2, p1, v3, v4, p2, pF hs 9 [0, 1] [0, 1, 2, 3, 4, 5, 6, 7, 8] rfl⟩
  ·intro L a w hL hv
   rw [QZ hL] at hv
   obtain ⟨v2, p1, v3, v4, p2, hs⟩ := hv
   refine (show TA _ _ _ 7 ⟨[(0, some parg01), (1, some parg11), (2, some parg21), (12, some (.pointer (some ⟨b_arg1, 0, none⟩))), (15, some v3), (18, some (vU32 y2))], [some (Qd b_arg1 82 [varg11, varg12]), some (Qj u8S true varg12 vsarg11 arg1.b none)], [Fact.pt (Shape.slice (Shape.slice SegS)) parg01 arg0, Fact.sl Qf varg11 arg1.l, Fact.pt (ptrS b_arg1) parg11 (), Fact.pt (Shape.slice u32S) parg21 arg2, Fact.sl SegS v3 y1]⟩ from ?_) a w (hs.wkS [0, 1, 2, 12, 15, 18] [0, 1] [0, 1, 2, 3, 6] rfl rfl rfl rfl)
   clear hs hL
   obtain ⟨writte1, hx3, h⟩ := ob_e h
   refine TA_exP htb (by kernel_rfl) rfl rfl (QW [2, 3, 4] (w_netdrv_writtenOf hx3) [0, 1] [1, 4] rfl rfl rfl rfl rfl callee67 rfl rfl rfl rfl rfl) ?_
   rintro _ ⟨_, _, _, ⟨v5, rfl, rfl, rfl⟩, rfl⟩
   refine QL htb (by kernel_rfl) rfl rfl (Qk rfl rfl rfl rfl) ?_
   refine Xy (fr' := [(0, some parg01), (1, some parg11), (2, some parg21), (11, some (.tuple #[v5, vI writte1.2]))]) (own' := [some (Qd b_arg1 82 [varg11, varg12]), some (Qj u8S true varg12 vsarg11 arg1.b none), some (rowS u8S v5 writte1.1)]) (shr' := [Fact.pt (Shape.slice (Shape.slice SegS)) parg01 arg0, Fact.sl Qf varg11 arg1.l, Fact.pt (ptrS b_arg1) parg11 (), Fact.pt (Shape.slice u32S) parg21 arg2]) [0, 1, 2, 11] [0, 1, 2] [0, 1, 2, 3] rfl rfl rfl rfl ?_
   refine Zs (lo := 9) (hi := 12) htb rfl rfl (by kernel_rfl) (fun c L a w => Sat c ⟨[(0, some parg01), (1, some parg11), (2, some parg21), (11, some (.tuple #[v5, vI writte1.2])), (20, bif L 9 then some (v5) else none), (21, bif L 10 then some (vI writte1.2) else none), (6, bif L 11 then some (v5) else none)], [(some (Qd b_arg1 82 [varg11, varg12]) : Option Res), (some (Qj u8S true varg12 vsarg11 arg1.b none) : Option Res), (some (rowS u8S v5 writte1.1) : Option Res)], [Fact.pt (Shape.slice (Shape.slice SegS)) parg01 arg0, Fact.sl Qf varg11 arg1.l, Fact.pt (ptrS b_arg1) parg11 (), Fact.pt (Shape.slice u32S) parg21 arg2]⟩ a w) [([], [11]), ([], []), ([9], [])] rfl (by kernel_rfl) ?_ (Qc ?_ (Qc ?_ (Qc ?_ (QH)))) ?_
   ·intro a w hs
    exact hs.startF [20, 21, 6] [0, 1, 2] [0, 1, 2, 3] rfl rfl rfl rfl
   ·intro L a w hs K Q hK
    exact wGo rfl rfl hs (Qs rfl rfl rfl rfl rfl) fun a w hs => hK a w (pF hs 4 [0, 1, 2] [0, 1, 2, 3] rfl)
   ·intro L a w hs K Q hK
    exact wGo rfl rfl hs (Qs rfl rfl rfl rfl rfl) fun a w hs => hK a w (pF hs 5 [0, 1, 2] [0, 1, 2, 3] rfl)
   ·intro L a w hs K Q hK
    exact wGo rfl rfl hs (Zh rfl rfl rfl rfl) fun a w hs => hK a w (pF hs 6 [0, 1, 2] [0, 1, 2, 3] rfl)
   ·intro L a w hL hv
    rw [QZ hL] at hv
    have hs := hv
    refine (show TA _ _ _ 12 ⟨[(0, some parg01), (1, some parg11), (2, some parg21), (21, some (vI writte1.2)), (6, some v5)], [some (Qd b_arg1 82 [varg11, varg12]), some (Qj u8S true varg12 vsarg11 arg1.b none), some (rowS u8S v5 writte1.1)], [Fact.pt (Shape.slice (Shape.slice SegS)) parg01 arg0, Fact.sl Qf varg11 arg1.l, Fact.pt (ptrS b_arg1) parg11 (), Fact.pt (Shape.slice u32S) parg21 arg2]⟩ from ?_) a w (hs.wkS [0, 1, 2, 21, 6] [0, 1, 2] [0, 1, 2, 3] rfl rfl rfl rfl)
    clear hs hL
    refine QL htb (by kernel_rfl) rfl rfl (Zh rfl rfl rfl rfl) ?_
    refine ZW rfl ?_
    refine tW [(0, some parg01), (1, some parg11), (2, some parg21), (6, some v5), (7, some (vI writte1.2))] [some (Qd b_arg1 82 [varg11, varg12]), some (Qj u8S true varg12 vsarg11 arg1.b none), some (rowS u8S v5 writte1.1)] [Fact.pt (Shape.slice (Shape.slice SegS)) parg01 arg0, Fact.sl Qf varg11 arg1.l, Fact.pt (ptrS b_arg1) parg11 (), Fact.pt (Shape.slice u32S) parg21 arg2] [0, 1, 2, 6, 7] [0, 1, 2] [0, 1, 2, 3] rfl ?_
    refine Qe (Zw (by kernel_rfl) ?_)
    refine TA_tb [0, 0, 0, 4, 0, 16, 62, 0, 127, 383, 1023] (by kernel_rfl) fun htb => ?_
    obtain ⟨hc1, h⟩ := Zi h
    obtain ⟨hc2, h⟩ := Zi h
    obtain ⟨from1, hx4, h⟩ := ob_e h
    refine Zs (lo := 0) (hi := 10) htb rfl rfl (by kernel_rfl) (fun c L a w => ∃ (v6 : Value), ∃ (v7 : Value), ∃ (v8 : Value), ∃ (v9 : Value), ∃ (v10 : Value), Sat c ⟨[(0, some parg01), (1, some parg11), (2, some parg21), (6, some v5), (7, some (vI writte1.2)), (22, bif L 0 then some (v5) else none), (23, bif L 1 then some (.pointer (some ⟨b_arg1, 0, none⟩)) else none), (24, bif L 2 then some (v6) else none), (25, bif L 3 then some (v7) else none), (26, bif L 4 then some (v8) else none), (27, bif L 5 then some (v9) else none), (28, bif L 6 then some (v10) else none), (29, bif L 7 then some (vI writte1.2) else none), (3, bif L 8 then some (v5) else none), (4, bif L 9 then some (v10) else none)], [(some (Qd b_arg1 82 [varg11, varg12]) : Option Res), (some (Qj u8S true varg12 vsarg11 arg1.b none) : Option Res), (some (rowS u8S v5 writte1.1) : Option Res)], [Fact.pt (Shape.slice (Shape.slice SegS)) parg01 arg0, Fact.sl Qf varg11 arg1.l, Fact.pt (ptrS b_arg1) parg11 (), Fact.pt (Shape.slice u32S) parg21 arg2, (bif L 2 then Fact.sl (Shape.slice SegS) v6 arg0 else Fact.tt), (bif L 3 then Fact.sl (Shape.slice SegS) v7 (sub arg0 (1 : Int) (len arg0)) else Fact.tt), (bif L 4 then Fact.sl u32S v8 arg2 else Fact.tt), (bif L 5 then Fact.sl u32S v9 (sub arg2 (1 : Int) (len arg2)) else Fact.tt), (bif L 6 then Fact.clo (cl66 b_arg1) v10 from1 else Fact.tt)]⟩ a w) [([], [8, 9]), ([], [6, 8, 9]), ([], [3, 6, 8, 9]), ([2], [6, 8, 9]), ([], [5, 6, 8, 9]), ([4], [6, 8, 9]), ([1, 2, 3, 4, 5], [8, 9]), ([], []), ([0, 1, 2, 3, 4, 5, 6], [9]), ([0, 1, 2, 3, 4, 5, 6, 8], [])] rfl (by kernel_rfl) ?_ (Qc ?_ (Qc ?_ (Qc ?_ (Qc ?_ (Qc ?_ (Qc ?_ (Qc ?_ (Qc ?_ (Qc ?_ (Qc ?_ (QH))))))))))) ?_
    ·intro a w hs
     exact ⟨undef, undef, undef, undef, undef, hs.startF [22, 23, 24, 25, 26, 27, 28, 29, 3, 4] [0, 1, 2] [0, 1, 2, 3, 4, 5, 6, 7, 8] rfl rfl rfl rfl⟩
    ·intro L a w hv K Q hK
     obtain ⟨v6, v7, v8, v9, v10, hs⟩ := hv
     exact wGo rfl rfl hs (Qk rfl rfl rfl rfl) fun a w hs => hK a w ⟨v6, v7, v8, v9, v10, pF hs 5 [0, 1, 2] [0, 1, 2, 3, 4, 5, 6, 7, 8] rfl⟩
    ·intro L a w hv K Q hK
     obtain ⟨v6, v7, v8, v9, v10, hs⟩ := hv
     exact wGo rfl rfl hs (QC rfl rfl rfl rfl tyF39 (i := 2) rfl rfl) fun a w hs => hK a w ⟨v6, v7, v8, v9, v10, pF hs 6 [0, 1, 2] [0, 1, 2, 3, 4, 5, 6, 7, 8] rfl⟩
    ·intro L a w hv K Q hK
     obtain ⟨v6, v7, v8, v9, v10, hs⟩ := hv
     refine QG rfl rfl hs (Xn rfl rfl rfl rfl tyF59 (i := 0) rfl) ?_
     rintro _ ⟨v6', rfl⟩ a' w' hs'
     exact hK a' w' ⟨v6', v7, v8, v9, v10, hs'.putF (i := 7) rfl [0, 1, 2] [0, 1, 2, 3, 9, 5, 6, 7, 8] rfl rfl rfl rfl⟩
    ·intro L a w hv K Q hK
     obtain ⟨v6, v7, v8, v9, v10, hs⟩ := hv
     refine QG rfl rfl hs (XQ (l := (1 : Int)) rfl rfl rfl rfl rfl slF59 (i := 4) rfl hc1) ?_
     rintro _ ⟨v7', rfl⟩ a' w' hs'
     exact hK a' w' ⟨v6, v7', v8, v9, v10, hs'.putF (i := 8) rfl [0, 1, 2] [0, 1, 2, 3, 4, 9, 6, 7, 8] rfl rfl rfl rfl⟩
    ·intro L a w hv K Q hK
     obtain ⟨v6, v7, v8, v9, v10, hs⟩ := hv
     refine QG rfl rfl hs (Xn rfl rfl rfl rfl tyF62 (i := 3) rfl) ?_
     rintro _ ⟨v8', rfl⟩ a' w' hs'
     exact hK a' w' ⟨v6, v7, v8', v9, v10, hs'.putF (i := 9) rfl [0, 1, 2] [0, 1, 2, 3, 4, 5, 9, 7, 8] rfl rfl rfl rfl⟩
    ·intro L a w hv K Q hK
     obtain ⟨v6, v7, v8, v9, v10, hs⟩ := hv
     refine QG rfl rfl hs (XQ (l := (1 : Int)) rfl rfl rfl rfl rfl slF62 (i := 6) rfl hc2) ?_
     rintro _ ⟨v9', rfl⟩ a' w' hs'
     exact hK a' w' ⟨v6, v7, v8, v9', v10, hs'.putF (i := 10) rfl [0, 1, 2] [0, 1, 2, 3, 4, 5, 6, 9, 8] rfl rfl rfl rfl⟩
    ·intro L a w hv K Q hK
     obtain ⟨v6, v7, v8, v9, v10, hs⟩ := hv
     refine QG rfl rfl hs (QW [3, 4, 2] (w_netdrv_from hx4) [0, 1] [1, 5, 7] rfl rfl rfl rfl rfl callee53 rfl rfl rfl rfl rfl) ?_
     rintro _ ⟨v10', _, _, ⟨_, rfl, rfl, rfl⟩, rfl⟩ a' w' hs'
     exact hK a' w' ⟨v6, v7, v8, v9, v10', hs'.putF (i := 11) rfl [0, 1, 2] [0, 1, 2, 3, 4, 5, 6, 7, 9] rfl rfl rfl rfl⟩
    ·intro L a w hv K Q hK
     obtain ⟨v6, v7, v8, v9, v10, hs⟩ := hv
     exact wGo rfl rfl hs (Qk rfl rfl rfl rfl) fun a w hs => hK a w ⟨v6, v7, v8, v9, v10, pF hs 12 [0, 1, 2] [0, 1, 2, 3, 4, 5, 6, 7, 8] rfl⟩
    ·intro L a w hv K Q hK
     obtain ⟨v6, v7, v8, v9, v10, hs⟩ := hv
     exact wGo rfl rfl hs (Zh rfl rfl rfl rfl) fun a w hs => hK a w ⟨v6, v7, v8, v9, v10, pF hs 13 [0, 1, 2] [0, 1, 2, 3, 4, 5, 6, 7, 8] rfl⟩
    ·intro L a w hv K Q hK
     obtain ⟨v6, v7, v8, v9, v10, hs⟩ := hv
     exact wGo rfl rfl hs (Zh rfl rfl rfl rfl) fun a w hs => hK a w ⟨v6, v7, v8, v9, v10, pF hs 14 [0, 1, 2] [0, 1, 2, 3, 4, 5, 6, 7, 8] rfl⟩
    ·intro L a w hL hv
     rw [QZ hL] at hv
     obtain ⟨v6, v7, v8, v9, v10, hs⟩ := hv
     refine (show TA _ _ _ 10 ⟨[(29, some (vI writte1.2)), (3, some v5), (4, some v10)], [some (Qd b_arg1 82 [varg11, varg12]), some (Qj u8S true varg12 vsarg11 arg1.b none), some (rowS u8S v5 writte1.1)], [Fact.sl Qf varg11 arg1.l, Fact.clo (cl66 b_arg1) v10 from1]⟩ from ?_) a w (hs.wkS [29, 3, 4] [0, 1, 2] [1, 8] rfl rfl rfl rfl)
     clear hs hL
     refine QL htb (by kernel_rfl) rfl rfl (Zh rfl rfl rfl rfl) ?_
     refine ZW rfl ?_
     refine tW [(3, some v5), (4, some v10), (5, some (vI writte1.2))] [some (Qd b_arg1 82 [varg11, varg12]), some (Qj u8S true varg12 vsarg11 arg1.b none), some (rowS u8S v5 writte1.1)] [Fact.sl Qf varg11 arg1.l, Fact.clo (cl66 b_arg1) v10 from1] [3, 4, 5] [0, 1, 2] [0, 1] rfl ?_
     obtain rfl := Option.some.inj h
     exact Qn rfl rfl (resA (vs := [v5, v10, vI writte1.2]) rfl ⟨rfl, rfl, rfl, trivial⟩) [0, 1, 2] [1] rfl rfl rfl ⟨v5, v10, rfl, rfl, rfl⟩

set_option maxRecDepth 100000 in
set_option maxHeartbeats 4000000 in
theorem w_feat_Has {set : UInt64} {bit : Int} {r : Bool} (h : feat_Has set bit = some r) :
  Ctr Try.prog 55 #[vU64 set, vI bit] [] []
   (fun rv own shr => rv = vB r ∧ own = [] ∧ shr = []) := by
 unfold feat_Has at h
 refine Ctr.mk (args := [vU64 set, vI bit]) Try.func55 rfl rfl (fun R0 w0 B => ?_)
 refine Qe (Qb (sAs rfl rfl rfl ?_))
 refine nW [(0, some (vU64 set)), (1, some (vI bit))] [] [] [0, 1] [] [] rfl ?_
 refine Qe (Qb (sMv rfl rfl rfl ?_))
 refine Qa rfl (Qg rfl rfl rfl rfl rfl (bin_geq_i (a := bit) (b := (0 : Int)))) ?_
 refine sMv rfl rfl rfl ?_
 rcases bC (decide (bit ≥ (0 : Int))) with hg1 | hg1
 ·replace h := br_t hg1 h
  refine Qi rfl rfl (cgb hg1) (Qk rfl rfl rfl rfl) ?_
  rintro _ rfl
  refine Qi rfl rfl (cgb hg1) (Qg rfl rfl rfl rfl rfl (bin_leq_i (a := bit) (b := (63 : Int)))) ?_
  rintro _ rfl
  refine Qa rfl (Qw rfl rfl rfl (cgb hg1) rfl) ?_
  refine sMv rfl rfl rfl ?_
  rcases bC (decide (bit ≤ (63 : Int))) with hg2 | hg2
  ·replace h := br_t hg2 h
   refine Qi rfl rfl (cgb hg2) (Qk rfl rfl rfl rfl) ?_
   rintro _ rfl
   refine Qi rfl rfl (cgb hg2) (Qk rfl rfl rfl rfl) ?_
   rintro _ rfl
   obtain ⟨hc1, h⟩ := Zi h
   refine Qi rfl rfl (cgb hg2) (Qg rfl rfl rfl rfl rfl (bin_shr_u64_i64 (a := set) (n := bit) hc1)) ?_
   rintro _ rfl
   refine Qi rfl rfl (cgb hg2) (Qg rfl rfl rfl rfl rfl (bin_and_u64 (a := XH set bit.toNat) (b := (1 : UInt64)))) ?_
   rintro _ rfl
   refine Qi rfl rfl (cgb hg2) (Qg rfl rfl rfl rfl rfl (bin_eql_u64 (a := (XH set bit.toNat) &&& (1 : UInt64)) (b := (1 : UInt64)))) ?_
   rintro _ rfl
   refine Qa rfl (Qw rfl rfl rfl (cgb hg2) rfl) ?_
   refine sAs rfl rfl rfl ?_
   refine nW [(4, some (vB (((XH set bit.toNat) &&& (1 : UInt64)) == (1 : UInt64))))] [] [] [4] [] [] rfl ?_
   obtain rfl := Option.some.inj h
   exact Qn rfl rfl (resA (vs := [vB (((XH set bit.toNat) &&& (1 : UInt64)) == (1 : UInt64))]) rfl ⟨rfl, trivial⟩) [] [] rfl rfl rfl ⟨rfl, rfl, rfl⟩
  ·replace h := br_f hg2 h
   refine Qh rfl rfl (cgb hg2) rfl rfl ?_
   refine Qh rfl rfl (cgb hg2) rfl rfl ?_
   refine Qh rfl rfl (cgb hg2) rfl rfl ?_
   refine Qh rfl rfl (cgb hg2) rfl rfl ?_
   refine Qh rfl rfl (cgb hg2) rfl rfl ?_
   refine Qa rfl (Qu rfl rfl rfl (cgb hg2) rfl) ?_
   refine sAs rfl rfl rfl ?_
   refine nW [(4, some (vB false))] [] [] [4] [] [] rfl ?_
   obtain rfl := Option.some.inj h
   exact Qn rfl rfl (resA (vs := [vB false]) rfl ⟨rfl, trivial⟩) [] [] rfl rfl rfl ⟨rfl, rfl, rfl⟩
 ·replace h := br_f hg1 h
  refine Qh rfl rfl (cgb hg1) rfl rfl ?_
  refine Qh rfl rfl (cgb hg1) rfl rfl ?_
  refine Qa rfl (Qu rfl rfl rfl (cgb hg1) rfl) ?_
  refine sMv rfl rfl rfl ?_
  refine Qh rfl rfl rfl rfl rfl ?_
  refine Qh rfl rfl rfl rfl rfl ?_
  refine Qh rfl rfl rfl rfl rfl ?_
  refine Qh rfl rfl rfl rfl rfl ?_
  refine Qh rfl rfl rfl rfl rfl ?_
  refine Qa rfl (Qu rfl rfl rfl rfl rfl) ?_
  refine sAs rfl rfl rfl ?_
  refine nW [(4, some (vB false))] [] [] [4] [] [] rfl ?_
  obtain rfl := Option.some.inj h
  exact Qn rfl rfl (resA (vs := [vB false]) rfl ⟨rfl, trivial⟩) [] [] rfl rfl rfl ⟨rfl, rfl, rfl⟩

set_option maxRecDepth 100000 in
set_option maxHeartbeats 4000000 in
theorem w_netdrv_One {m : gmem_Mem} {feats : UInt64} {bufs : List (List Seg)} {written : List UInt32} {b_m : Nat} {vm1 : Value} {vm2 : Value} {vsm1 : List Value} {vbufs1 : Value} {vwritten1 : Value} {r : (Frame × Int × Int)} (h : netdrv_One m feats bufs written = some r) :
  Ctr Try.prog 30 #[.pointer (some ⟨b_m, 0, none⟩), vU64 feats, vbufs1, vwritten1] [(Qd b_m 82 [vm1, vm2]), (Qj u8S true vm2 vsm1 m.b none)] [Fact.sl Qf vm1 m.l, Fact.sl (Shape.slice SegS) vbufs1 bufs, Fact.sl u32S vwritten1 written]
   (fun rv own shr => ∃ (w1 : Value), rv = .tuple #[.agg #[vU8 r.1.Dst.a0, vU8 r.1.Dst.a1, vU8 r.1.Dst.a2, vU8 r.1.Dst.a3, vU8 r.1.Dst.a4, vU8 r.1.Dst.a5, vU8 r.1.Src.a0, vU8 r.1.Src.a1, vU8 r.1.Src.a2, vU8 r.1.Src.a3, vU8 r.1.Src.a4, vU8 r.1.Src.a5, vI r.1.Vlan, vU16 r.1.Type_, w1], vI r.2.1, vI r.2.2] ∧ own = [(Qd b_m 82 [vm1, vm2]), (Qj u8S true vm2 vsm1 m.b none), (rowS u8S w1 r.1.Data)] ∧ shr = []) := by
 unfold netdrv_One at h
 refine Ctr.mk (args := [.pointer (some ⟨b_m, 0, none⟩), vU64 feats, vbufs1, vwritten1]) Try.func30 rfl rfl (fun R0 w0 B => ?_)
 refine Qe (Qb (Qq rfl (Zq rfl rfl rfl tyZ37) fun b1 => ?_))
 refine sAs rfl rfl rfl ?_
 refine sAs rfl rfl rfl ?_
 refine nW [(0, some (.pointer (some ⟨b_m, 0, none⟩))), (1, some (vU64 feats)), (2, some vbufs1), (3, some vwritten1), (8, some (.pointer (some ⟨b1, 0, none⟩)))] [some (Qd b_m 82 [vm1, vm2]), some (Qj u8S true vm2 vsm1 m.b none), some (Qd b1 37 [vU8 (0 : UInt8), vU8 (0 : UInt8), vU8 (0 : UInt8), vU8 (0 : UInt8), vU8 (0 : UInt8), vU8 (0 : UInt8), vU8 (0 : UInt8), vU8 (0 : UInt8), vU8 (0 : UInt8), vU8 (0 : UInt8), vU8 (0 : UInt8), vU8 (0 : UInt8), vI (0 : Int), vU16 (0 : UInt16), .slice none 0 0])] [Fact.sl Qf vm1 m.l, Fact.sl (Shape.slice SegS) vbufs1 bufs, Fact.sl u32S vwritten1 written] [0, 1, 2, 3, 8] [0, 1, 2] [0, 1, 2] rfl ?_
 refine Qe (Qz (Qe (Qb (sMv rfl rfl rfl ?_))))
 refine Qa rfl (OpT_ptrNil rfl rfl rfl (.inl rfl) rfl rfl ptrF39) ?_
 refine sAs rfl rfl rfl ?_
 refine nW [(0, some (.pointer (some ⟨b_m, 0, none⟩))), (1, some (vU64 feats)), (2, some vbufs1), (3, some vwritten1), (8, some (.pointer (some ⟨b1, 0, none⟩))), (18, some (vB false))] [some (Qd b_m 82 [vm1, vm2]), some (Qj u8S true vm2 vsm1 m.b none), some (Qd b1 37 [vU8 (0 : UInt8), vU8 (0 : UInt8), vU8 (0 : UInt8), vU8 (0 : UInt8), vU8 (0 : UInt8), vU8 (0 : UInt8), vU8 (0 : UInt8), vU8 (0 : UInt8), vU8 (0 : UInt8), vU8 (0 : UInt8), vU8 (0 : UInt8), vU8 (0 : UInt8), vI (0 : Int), vU16 (0 : UInt16), .slice none 0 0])] [Fact.sl Qf vm1 m.l, Fact.sl (Shape.slice SegS) vbufs1 bufs, Fact.sl u32S vwritten1 written] [0, 1, 2, 3, 8, 18] [0, 1, 2] [0, 1, 2] rfl ?_
 refine Qm rfl ?_
 refine Qe (Qb (sMv rfl rfl rfl ?_))
 refine Qa rfl (QB rfl rfl rfl rfl Try.underlying59 (i := 1) rfl) ?_
 refine Qa rfl (Qg rfl rfl rfl rfl rfl (Xh (a := len bufs) (b := (0 : Int)))) ?_
 refine sMv rfl rfl rfl ?_
 rcases bC ((len bufs) == (0 : Int)) with hg1 | hg1
 ·replace h := br_t hg1 h
  refine Qh rfl rfl (cgb hg1) rfl rfl ?_
  refine Qh rfl rfl (cgb hg1) rfl rfl ?_
  refine Qh rfl rfl (cgb hg1) rfl rfl ?_
  refine Qh rfl rfl (cgb hg1) rfl rfl ?_
  refine Qh rfl rfl (cgb hg1) rfl rfl ?_
  refine Qa rfl (Qw rfl rfl rfl (cgb hg1) rfl) ?_
  refine sAs rfl rfl rfl ?_
  refine nW [(0, some (.pointer (some ⟨b_m, 0, none⟩))), (1, some (vU64 feats)), (2, some vbufs1), (3, some vwritten1), (8, some (.pointer (some ⟨b1, 0, none⟩))), (22, some (vB true))] [some (Qd b_m 82 [vm1, vm2]), some (Qj u8S true vm2 vsm1 m.b none), some (Qd b1 37 [vU8 (0 : UInt8), vU8 (0 : UInt8), vU8 (0 : UInt8), vU8 (0 : UInt8), vU8 (0 : UInt8), vU8 (0 : UInt8), vU8 (0 : UInt8), vU8 (0 : UInt8), vU8 (0 : UInt8), vU8 (0 : UInt8), vU8 (0 : UInt8), vU8 (0 : UInt8), vI (0 : Int), vU16 (0 : UInt16), .slice none 0 0])] [Fact.sl Qf vm1 m.l, Fact.sl (Shape.slice SegS) vbufs1 bufs, Fact.sl u32S vwritten1 written] [0, 1, 2, 3, 8, 22] [0, 1, 2] [0, 1, 2] rfl ?_
  refine Ql rfl ?_
  refine Qe (Qb (Qa rfl (Zd (v := .agg #[vU8 (0 : UInt8), vU8 (0 : UInt8), vU8 (0 : UInt8), vU8 (0 : UInt8), vU8 (0 : UInt8), vU8 (0 : UInt8), vU8 (0 : UInt8), vU8 (0 : UInt8), vU8 (0 : UInt8), vU8 (0 : UInt8), vU8 (0 : UInt8), vU8 (0 : UInt8), vI (0 : Int), vU16 (0 : UInt16), .slice none 0 0]) rfl rfl rfl rfl (bldV (by kernel_rfl))) ?_))
  refine Qa rfl (QE (cs' := [vU8 (0 : UInt8), vU8 (0 : UInt8), vU8 (0 : UInt8), vU8 (0 : UInt8), vU8 (0 : UInt8), vU8 (0 : UInt8), vU8 (0 : UInt8), vU8 (0 : UInt8), vU8 (0 : UInt8), vU8 (0 : UInt8), vU8 (0 : UInt8), vU8 (0 : UInt8), vI (0 : Int), vU16 (0 : UInt16), .slice none 0 0]) rfl rfl rfl rfl Xo (i := 2) rfl rfl rfl (ZE rfl) rfl) ?_
  refine sAs rfl rfl rfl ?_
  refine sAs rfl rfl rfl ?_
  refine nW [(8, some (.pointer (some ⟨b1, 0, none⟩))), (9, some (vI (0 : Int))), (10, some (vI (2 : Int)))] [some (Qd b_m 82 [vm1, vm2]), some (Qj u8S true vm2 vsm1 m.b none), some (Qd b1 37 [vU8 (0 : UInt8), vU8 (0 : UInt8), vU8 (0 : UInt8), vU8 (0 : UInt8), vU8 (0 : UInt8), vU8 (0 : UInt8), vU8 (0 : UInt8), vU8 (0 : UInt8), vU8 (0 : UInt8), vU8 (0 : UInt8), vU8 (0 : UInt8), vU8 (0 : UInt8), vI (0 : Int), vU16 (0 : UInt16), .slice none 0 0])] [Fact.sl Qf vm1 m.l] [8, 9, 10] [0, 1, 2] [0] rfl ?_
  refine QI u8S ?_
  obtain rfl := Option.some.inj h
  exact Qn rfl rfl (resA (vs := [.agg #[vU8 (0 : UInt8), vU8 (0 : UInt8), vU8 (0 : UInt8), vU8 (0 : UInt8), vU8 (0 : UInt8), vU8 (0 : UInt8), vU8 (0 : UInt8), vU8 (0 : UInt8), vU8 (0 : UInt8), vU8 (0 : UInt8), vU8 (0 : UInt8), vU8 (0 : UInt8), vI (0 : Int), vU16 (0 : UInt16), .slice none 0 0], vI (0 : Int), vI (2 : Int)]) rfl ⟨⟨_, 2, _, _, _, rfl, rfl, .inl ⟨Xo, rfl, rfl⟩⟩, rfl, rfl, trivial⟩) [0, 1, 3] [] rfl rfl rfl ⟨(.slice none 0 0), rfl, rfl, rfl⟩
 ·replace h := br_f hg1 h
  refine Qi rfl rfl (cgb hg1) (Qk rfl rfl rfl rfl) ?_
  rintro _ rfl
  refine Qi rfl rfl (cgb hg1) (QB rfl rfl rfl rfl Try.underlying59 (i := 1) rfl) ?_
  rintro _ rfl
  refine Qi rfl rfl (cgb hg1) (Qk rfl rfl rfl rfl) ?_
  rintro _ rfl
  refine Qi rfl rfl (cgb hg1) (QB rfl rfl rfl rfl Try.underlying62 (i := 2) rfl) ?_
  rintro _ rfl
  refine Qi rfl rfl (cgb hg1) (Qg rfl rfl rfl rfl rfl (QU (a := len bufs) (b := len written))) ?_
  rintro _ rfl
  refine Qa rfl (Qu rfl rfl rfl (cgb hg1) rfl) ?_
  refine sAs rfl rfl rfl ?_
  refine nW [(0, some (.pointer (some ⟨b_m, 0, none⟩))), (1, some (vU64 feats)), (2, some vbufs1), (3, some vwritten1), (8, some (.pointer (some ⟨b1, 0, none⟩))), (22, some (vB ((len bufs) != (len written))))] [some (Qd b_m 82 [vm1, vm2]), some (Qj u8S true vm2 vsm1 m.b none), some (Qd b1 37 [vU8 (0 : UInt8), vU8 (0 : UInt8), vU8 (0 : UInt8), vU8 (0 : UInt8), vU8 (0 : UInt8), vU8 (0 : UInt8), vU8 (0 : UInt8), vU8 (0 : UInt8), vU8 (0 : UInt8), vU8 (0 : UInt8), vU8 (0 : UInt8), vU8 (0 : UInt8), vI (0 : Int), vU16 (0 : UInt16), .slice none 0 0])] [Fact.sl Qf vm1 m.l, Fact.sl (Shape.slice SegS) vbufs1 bufs, Fact.sl u32S vwritten1 written] [0, 1, 2, 3, 8, 22] [0, 1, 2] [0, 1, 2] rfl ?_
  rcases bC ((len bufs) != (len written)) with hg2 | hg2
  ·replace h := br_t hg2 h
   refine Ql (cgb hg2) ?_
   refine Qe (Qb (Qa rfl (Zd (v := .agg #[vU8 (0 : UInt8), vU8 (0 : UInt8), vU8 (0 : UInt8), vU8 (0 : UInt8), vU8 (0 : UInt8), vU8 (0 : UInt8), vU8 (0 : UInt8), vU8 (0 : UInt8), vU8 (0 : UInt8), vU8 (0 : UInt8), vU8 (0 : UInt8), vU8 (0 : UInt8), vI (0 : Int), vU16 (0 : UInt16), .slice none 0 0]) rfl rfl rfl rfl (bldV (by kernel_rfl))) ?_))
   refine Qa rfl (QE (cs' := [vU8 (0 : UInt8), vU8 (0 : UInt8), vU8 (0 : UInt8), vU8 (0 : UInt8), vU8 (0 : UInt8), vU8 (0 : UInt8), vU8 (0 : UInt8), vU8 (0 : UInt8), vU8 (0 : UInt8), vU8 (0 : UInt8), vU8 (0 : UInt8), vU8 (0 : UInt8), vI (0 : Int), vU16 (0 : UInt16), .slice none 0 0]) rfl rfl rfl rfl Xo (i := 2) rfl rfl rfl (ZE rfl) rfl) ?_
   refine sAs rfl rfl rfl ?_
   refine sAs rfl rfl rfl ?_
   refine nW [(8, some (.pointer (some ⟨b1, 0, none⟩))), (9, some (vI (0 : Int))), (10, some (vI (2 : Int)))] [some (Qd b_m 82 [vm1, vm2]), some (Qj u8S true vm2 vsm1 m.b none), some (Qd b1 37 [vU8 (0 : UInt8), vU8 (0 : UInt8), vU8 (0 : UInt8), vU8 (0 : UInt8), vU8 (0 : UInt8), vU8 (0 : UInt8), vU8 (0 : UInt8), vU8 (0 : UInt8), vU8 (0 : UInt8), vU8 (0 : UInt8), vU8 (0 : UInt8), vU8 (0 : UInt8), vI (0 : Int), vU16 (0 : UInt16), .slice none 0 0])] [Fact.sl Qf vm1 m.l] [8, 9, 10] [0, 1, 2] [0] rfl ?_
   refine QI u8S ?_
   obtain rfl := Option.some.inj h
   exact Qn rfl rfl (resA (vs := [.agg #[vU8 (0 : UInt8), vU8 (0 : UInt8), vU8 (0 : UInt8), vU8 (0 : UInt8), vU8 (0 : UInt8), vU8 (0 : UInt8), vU8 (0 : UInt8), vU8 (0 : UInt8), vU8 (0 : UInt8), vU8 (0 : UInt8), vU8 (0 : UInt8), vU8 (0 : UInt8), vI (0 : Int), vU16 (0 : UInt16), .slice none 0 0], vI (0 : Int), vI (2 : Int)]) rfl ⟨⟨_, 2, _, _, _, rfl, rfl, .inl ⟨Xo, rfl, rfl⟩⟩, rfl, rfl, trivial⟩) [0, 1, 3] [] rfl rfl rfl ⟨(.slice none 0 0), rfl, rfl, rfl⟩
  ·replace h := br_f hg2 h
   refine Qm (cgb hg2) ?_
   refine Qr (Zk (Qe (Qb (sMv rfl rfl rfl ?_))))
   refine sMv rfl rfl rfl ?_
   refine sMv rfl rfl rfl ?_
   obtain ⟨from1, hx1, h⟩ := ob_e h
   refine Qt rfl (QW [3, 4, 2] (w_netdrv_from hx1) [0, 1] [0, 1, 2] rfl rfl rfl rfl rfl callee53 rfl rfl rfl rfl rfl) ?_
   rintro _ ⟨v1, _, _, ⟨_, rfl, rfl, rfl⟩, rfl⟩
   obtain ⟨clo1, hx2, h⟩ := ob_e h
   refine Tops_clo (i := 3) rfl hx2 cl66_in ?_
   rintro ⟨p1, p2, p3⟩ rfl
   obtain ⟨from2, hx3, h⟩ := ob_e h
   refine Qt rfl (QW [3, 4, 2, 5] (w_netdrv_from_1 hx3) [0, 1] [4, 0, 5, 6] rfl rfl rfl rfl rfl callee66 rfl rfl rfl rfl rfl) ?_
   rintro _ ⟨_, _, _, ⟨v2, v3, rfl, rfl, rfl⟩, rfl⟩
   refine sMv rfl rfl rfl ?_
   refine Qa rfl (Qs rfl rfl rfl rfl rfl) ?_
   refine Qa rfl (Qs rfl rfl rfl rfl rfl) ?_
   refine Qa rfl (Qs rfl rfl rfl rfl rfl) ?_
   refine sAs rfl rfl rfl ?_
   refine sAs rfl rfl rfl ?_
   refine sAs rfl rfl rfl ?_
   refine nW [(1, some (vU64 feats)), (2, some vbufs1), (8, some (.pointer (some ⟨b1, 0, none⟩))), (11, some v2), (12, some v3), (13, some (vI from2.2.2))] [some (Qd b_m 82 [vm1, vm2]), some (Qj u8S true vm2 vsm1 m.b none), some (Qd b1 37 [vU8 (0 : UInt8), vU8 (0 : UInt8), vU8 (0 : UInt8), vU8 (0 : UInt8), vU8 (0 : UInt8), vU8 (0 : UInt8), vU8 (0 : UInt8), vU8 (0 : UInt8), vU8 (0 : UInt8), vU8 (0 : UInt8), vU8 (0 : UInt8), vU8 (0 : UInt8), vI (0 : Int), vU16 (0 : UInt16), .slice none 0 0]), some (rowS u8S v2 from2.1)] [Fact.sl Qf vm1 m.l, Fact.sl (Shape.slice SegS) vbufs1 bufs, Fact.clo (cl66 b_m) v3 from2.2.1] [1, 2, 8, 11, 12, 13] [0, 1, 2, 3] [0, 1, 7] rfl ?_
   refine Qe (Qe (Qb (sMv rfl rfl rfl ?_)))
   refine Qa rfl (Qg rfl rfl rfl rfl rfl (QU (a := from2.2.2) (b := (0 : Int)))) ?_
   refine nW [(1, some (vU64 feats)), (2, some vbufs1), (8, some (.pointer (some ⟨b1, 0, none⟩))), (11, some v2), (12, some v3), (13, some (vI from2.2.2)), (44, some (vB (from2.2.2 != (0 : Int))))] [some (Qd b_m 82 [vm1, vm2]), some (Qj u8S true vm2 vsm1 m.b none), some (Qd b1 37 [vU8 (0 : UInt8), vU8 (0 : UInt8), vU8 (0 : UInt8), vU8 (0 : UInt8), vU8 (0 : UInt8), vU8 (0 : UInt8), vU8 (0 : UInt8), vU8 (0 : UInt8), vU8 (0 : UInt8), vU8 (0 : UInt8), vU8 (0 : UInt8), vU8 (0 : UInt8), vI (0 : Int), vU16 (0 : UInt16), .slice none 0 0]), some (rowS u8S v2 from2.1)] [Fact.sl Qf vm1 m.l, Fact.sl (Shape.slice SegS) vbufs1 bufs, Fact.clo (cl66 b_m) v3 from2.2.1] [1, 2, 8, 11, 12, 13, 44] [0, 1, 2, 3] [0, 1, 2] rfl ?_
   rcases bC (from2.2.2 != (0 : Int)) with hg3 | hg3
   ·replace h := br_t hg3 h
    refine Ql (cgb hg3) ?_
    refine Qe (Qb (Qa rfl (Zd (v := .agg #[vU8 (0 : UInt8), vU8 (0 : UInt8), vU8 (0 : UInt8), vU8 (0 : UInt8), vU8 (0 : UInt8), vU8 (0 : UInt8), vU8 (0 : UInt8), vU8 (0 : UInt8), vU8 (0 : UInt8), vU8 (0 : UInt8), vU8 (0 : UInt8), vU8 (0 : UInt8), vI (0 : Int), vU16 (0 : UInt16), .slice none 0 0]) rfl rfl rfl rfl (bldV (by kernel_rfl))) ?_))
    refine sMv rfl rfl rfl ?_
    refine Qa rfl (QE (cs' := [vU8 (0 : UInt8), vU8 (0 : UInt8), vU8 (0 : UInt8), vU8 (0 : UInt8), vU8 (0 : UInt8), vU8 (0 : UInt8), vU8 (0 : UInt8), vU8 (0 : UInt8), vU8 (0 : UInt8), vU8 (0 : UInt8), vU8 (0 : UInt8), vU8 (0 : UInt8), vI (0 : Int), vU16 (0 : UInt16), .slice none 0 0]) rfl rfl rfl rfl Xo (i := 2) rfl rfl rfl (ZE rfl) rfl) ?_
    refine sAs rfl rfl rfl ?_
    refine sAs rfl rfl rfl ?_
    refine nW [(8, some (.pointer (some ⟨b1, 0, none⟩))), (9, some (vI (0 : Int))), (10, some (vI from2.2.2))] [some (Qd b_m 82 [vm1, vm2]), some (Qj u8S true vm2 vsm1 m.b none), some (Qd b1 37 [vU8 (0 : UInt8), vU8 (0 : UInt8), vU8 (0 : UInt8), vU8 (0 : UInt8), vU8 (0 : UInt8), vU8 (0 : UInt8), vU8 (0 : UInt8), vU8 (0 : UInt8), vU8 (0 : UInt8), vU8 (0 : UInt8), vU8 (0 : UInt8), vU8 (0 : UInt8), vI (0 : Int), vU16 (0 : UInt16), .slice none 0 0])] [Fact.sl Qf vm1 m.l] [8, 9, 10] [0, 1, 2] [0] rfl ?_
    refine QI u8S ?_
    obtain rfl := Option.some.inj h
    exact Qn rfl rfl (resA (vs := [.agg #[vU8 (0 : UInt8), vU8 (0 : UInt8), vU8 (0 : UInt8), vU8 (0 : UInt8), vU8 (0 : UInt8), vU8 (0 : UInt8), vU8 (0 : UInt8), vU8 (0 : UInt8), vU8 (0 : UInt8), vU8 (0 : UInt8), vU8 (0 : UInt8), vU8 (0 : UInt8), vI (0 : Int), vU16 (0 : UInt16), .slice none 0 0], vI (0 : Int), vI from2.2.2]) rfl ⟨⟨_, 2, _, _, _, rfl, rfl, .inl ⟨Xo, rfl, rfl⟩⟩, rfl, rfl, trivial⟩) [0, 1, 3] [] rfl rfl rfl ⟨(.slice none 0 0), rfl, rfl, rfl⟩
   ·replace h := br_f hg3 h
    refine Qm (cgb hg3) ?_
    refine Qr (Qe (Qb (sMv rfl rfl rfl ?_)))
    obtain ⟨readhd1, hx4, h⟩ := ob_e h
    refine Qt rfl (Zj [3] [0, 1, 2, 3] (w_frame_ReadHdr hx4) [] rfl rfl rfl rfl rfl callee54 rfl rfl rfl rfl rfl rfl (QV (ZO 3 rfl rfl) Xe) (by rintro _ _ _ ⟨rfl, rfl, rfl⟩; exact ⟨rfl, Ye⟩)) ?_
    rintro _ ⟨_, _, _, ⟨rfl, rfl, rfl⟩, rfl⟩
    refine sMv rfl rfl rfl ?_
    refine Qa rfl (Qs rfl rfl rfl rfl rfl) ?_
    refine Qa rfl (Qs rfl rfl rfl rfl rfl) ?_
    refine Qq rfl (Zq rfl rfl rfl tyZ88) fun b2 => ?_
    refine Qa rfl (QE (cs' := [vU8 readhd1.1.Flags, vU16 readhd1.1.Start, vU16 readhd1.1.Off, vU16 readhd1.1.Buffers]) rfl rfl rfl rfl tyF88 (i := 4) rfl rfl rfl (ZE rfl) rfl) ?_
    refine sAs rfl rfl rfl ?_
    refine nW [(1, some (vU64 feats)), (2, some vbufs1), (8, some (.pointer (some ⟨b1, 0, none⟩))), (11, some v2), (12, some v3), (13, some (vI readhd1.2)), (14, some (.pointer (some ⟨b2, 0, none⟩)))] [some (Qd b_m 82 [vm1, vm2]), some (Qj u8S true vm2 vsm1 m.b none), some (Qd b1 37 [vU8 (0 : UInt8), vU8 (0 : UInt8), vU8 (0 : UInt8), vU8 (0 : UInt8), vU8 (0 : UInt8), vU8 (0 : UInt8), vU8 (0 : UInt8), vU8 (0 : UInt8), vU8 (0 : UInt8), vU8 (0 : UInt8), vU8 (0 : UInt8), vU8 (0 : UInt8), vI (0 : Int), vU16 (0 : UInt16), .slice none 0 0]), some (rowS u8S v2 from2.1), some (Qd b2 88 [vU8 readhd1.1.Flags, vU16 readhd1.1.Start, vU16 readhd1.1.Off, vU16 readhd1.1.Buffers])] [Fact.sl Qf vm1 m.l, Fact.sl (Shape.slice SegS) vbufs1 bufs, Fact.clo (cl66 b_m) v3 from2.2.1] [1, 2, 8, 11, 12, 13, 14] [0, 1, 2, 3, 4] [0, 1, 2] rfl ?_
    refine Qe (Qe (Qb (sMv rfl rfl rfl ?_)))
    refine Qa rfl (Qg rfl rfl rfl rfl rfl (QU (a := readhd1.2) (b := (0 : Int)))) ?_
    refine nW [(1, some (vU64 feats)), (2, some vbufs1), (8, some (.pointer (some ⟨b1, 0, none⟩))), (11, some v2), (12, some v3), (14, some (.pointer (some ⟨b2, 0, none⟩))), (53, some (vB (readhd1.2 != (0 : Int))))] [some (Qd b_m 82 [vm1, vm2]), some (Qj u8S true vm2 vsm1 m.b none), some (Qd b1 37 [vU8 (0 : UInt8), vU8 (0 : UInt8), vU8 (0 : UInt8), vU8 (0 : UInt8), vU8 (0 : UInt8), vU8 (0 : UInt8), vU8 (0 : UInt8), vU8 (0 : UInt8), vU8 (0 : UInt8), vU8 (0 : UInt8), vU8 (0 : UInt8), vU8 (0 : UInt8), vI (0 : Int), vU16 (0 : UInt16), .slice none 0 0]), some (rowS u8S v2 from2.1), some (Qd b2 88 [vU8 readhd1.1.Flags, vU16 readhd1.1.Start, vU16 readhd1.1.Off, vU16 readhd1.1.Buffers])] [Fact.sl Qf vm1 m.l, Fact.sl (Shape.slice SegS) vbufs1 bufs, Fact.clo (cl66 b_m) v3 from2.2.1] [1, 2, 8, 11, 12, 14, 53] [0, 1, 2, 3, 4] [0, 1, 2] rfl ?_
    rcases bC (readhd1.2 != (0 : Int)) with hg4 | hg4
    ·replace h := br_t hg4 h
     refine Ql (cgb hg4) ?_
     refine Qe (Qb (Qa rfl (Zd (v := .agg #[vU8 (0 : UInt8), vU8 (0 : UInt8), vU8 (0 : UInt8), vU8 (0 : UInt8), vU8 (0 : UInt8), vU8 (0 : UInt8), vU8 (0 : UInt8), vU8 (0 : UInt8), vU8 (0 : UInt8), vU8 (0 : UInt8), vU8 (0 : UInt8), vU8 (0 : UInt8), vI (0 : Int), vU16 (0 : UInt16), .slice none 0 0]) rfl rfl rfl rfl (bldV (by kernel_rfl))) ?_))
     refine Qa rfl (QE (cs' := [vU8 (0 : UInt8), vU8 (0 : UInt8), vU8 (0 : UInt8), vU8 (0 : UInt8), vU8 (0 : UInt8), vU8 (0 : UInt8), vU8 (0 : UInt8), vU8 (0 : UInt8), vU8 (0 : UInt8), vU8 (0 : UInt8), vU8 (0 : UInt8), vU8 (0 : UInt8), vI (0 : Int), vU16 (0 : UInt16), .slice none 0 0]) rfl rfl rfl rfl Xo (i := 2) rfl rfl rfl (ZE rfl) rfl) ?_
     refine sAs rfl rfl rfl ?_
     refine sAs rfl rfl rfl ?_
     refine nW [(8, some (.pointer (some ⟨b1, 0, none⟩))), (9, some (vI (0 : Int))), (10, some (vI (4 : Int)))] [some (Qd b_m 82 [vm1, vm2]), some (Qj u8S true vm2 vsm1 m.b none), some (Qd b1 37 [vU8 (0 : UInt8), vU8 (0 : UInt8), vU8 (0 : UInt8), vU8 (0 : UInt8), vU8 (0 : UInt8), vU8 (0 : UInt8), vU8 (0 : UInt8), vU8 (0 : UInt8), vU8 (0 : UInt8), vU8 (0 : UInt8), vU8 (0 : UInt8), vU8 (0 : UInt8), vI (0 : Int), vU16 (0 : UInt16), .slice none 0 0])] [Fact.sl Qf vm1 m.l] [8, 9, 10] [0, 1, 2] [0] rfl ?_
     refine QI u8S ?_
     obtain rfl := Option.some.inj h
     exact Qn rfl rfl (resA (vs := [.agg #[vU8 (0 : UInt8), vU8 (0 : UInt8), vU8 (0 : UInt8), vU8 (0 : UInt8), vU8 (0 : UInt8), vU8 (0 : UInt8), vU8 (0 : UInt8), vU8 (0 : UInt8), vU8 (0 : UInt8), vU8 (0 : UInt8), vU8 (0 : UInt8), vU8 (0 : UInt8), vI (0 : Int), vU16 (0 : UInt16), .slice none 0 0], vI (0 : Int), vI (4 : Int)]) rfl ⟨⟨_, 2, _, _, _, rfl, rfl, .inl ⟨Xo, rfl, rfl⟩⟩, rfl, rfl, trivial⟩) [0, 1, 3] [] rfl rfl rfl ⟨(.slice none 0 0), rfl, rfl, rfl⟩
    ·replace h := br_f hg4 h
     refine Qm (cgb hg4) ?_
     refine Qr (Qe (Qb (sAs rfl rfl rfl ?_)))
     refine nW [(1, some (vU64 feats)), (2, some vbufs1), (8, some (.pointer (some ⟨b1, 0, none⟩))), (11, some v2), (12, some v3), (14, some (.pointer (some ⟨b2, 0, none⟩))), (15, some (vI (1 : Int)))] [some (Qd b_m 82 [vm1, vm2]), some (Qj u8S true vm2 vsm1 m.b none), some (Qd b1 37 [vU8 (0 : UInt8), vU8 (0 : UInt8), vU8 (0 : UInt8), vU8 (0 : UInt8), vU8 (0 : UInt8), vU8 (0 : UInt8), vU8 (0 : UInt8), vU8 (0 : UInt8), vU8 (0 : UInt8), vU8 (0 : UInt8), vU8 (0 : UInt8), vU8 (0 : UInt8), vI (0 : Int), vU16 (0 : UInt16), .slice none 0 0]), some (rowS u8S v2 from2.1), some (Qd b2 88 [vU8 readhd1.1.Flags, vU16 readhd1.1.Start, vU16 readhd1.1.Off, vU16 readhd1.1.Buffers])] [Fact.sl Qf vm1 m.l, Fact.sl (Shape.slice SegS) vbufs1 bufs, Fact.clo (cl66 b_m) v3 from2.2.1] [1, 2, 8, 11, 12, 14, 15] [0, 1, 2, 3, 4] [0, 1, 2] rfl ?_
     refine Qe (Qe (Qb (sMv rfl rfl rfl ?_)))
     obtain ⟨has1, hx5, h⟩ := ob_e h
     refine Qt rfl (QO (w_feat_Has hx5) [] [] rfl rfl rfl rfl rfl callee55 rfl rfl rfl rfl) ?_
     rintro _ ⟨_, _, _, ⟨rfl, rfl, rfl⟩, rfl⟩
     refine nW [(2, some vbufs1), (8, some (.pointer (some ⟨b1, 0, none⟩))), (11, some v2), (12, some v3), (14, some (.pointer (some ⟨b2, 0, none⟩))), (15, some (vI (1 : Int))), (56, some (vB has1))] [some (Qd b_m 82 [vm1, vm2]), some (Qj u8S true vm2 vsm1 m.b none), some (Qd b1 37 [vU8 (0 : UInt8), vU8 (0 : UInt8), vU8 (0 : UInt8), vU8 (0 : UInt8), vU8 (0 : UInt8), vU8 (0 : UInt8), vU8 (0 : UInt8), vU8 (0 : UInt8), vU8 (0 : UInt8), vU8 (0 : UInt8), vU8 (0 : UInt8), vU8 (0 : UInt8), vI (0 : Int), vU16 (0 : UInt16), .slice none 0 0]), some (rowS u8S v2 from2.1), some (Qd b2 88 [vU8 readhd1.1.Flags, vU16 readhd1.1.Start, vU16 readhd1.1.Off, vU16 readhd1.1.Buffers])] [Fact.sl Qf vm1 m.l, Fact.sl (Shape.slice SegS) vbufs1 bufs, Fact.clo (cl66 b_m) v3 from2.2.1] [2, 8, 11, 12, 14, 15, 56] [0, 1, 2, 3, 4] [0, 1, 2] rfl ?_
     refine Yu (α := Int) (fun s => ⟨[(2, some vbufs1), (8, some (.pointer (some ⟨b1, 0, none⟩))), (11, some v2), (12, some v3), (15, some (vI s))], [some (Qd b1 37 [vU8 (0 : UInt8), vU8 (0 : UInt8), vU8 (0 : UInt8), vU8 (0 : UInt8), vU8 (0 : UInt8), vU8 (0 : UInt8), vU8 (0 : UInt8), vU8 (0 : UInt8), vU8 (0 : UInt8), vU8 (0 : UInt8), vU8 (0 : UInt8), vU8 (0 : UInt8), vI (0 : Int), vU16 (0 : UInt16), .slice none 0 0]), some (rowS u8S v2 from2.1), some (Qd b_m 82 [vm1, vm2]), some (Qj u8S true vm2 vsm1 m.b none)], [Fact.sl (Shape.slice SegS) vbufs1 bufs, Fact.clo (cl66 b_m) v3 from2.2.1, Fact.sl Qf vm1 m.l]⟩) (fun s => Ym m bufs from2 s = some r) ?_ ?_
     ·rintro n1 h
      replace h : Ym m bufs from2 n1 = some r := h
      unfold Ym at h
      refine Qe (Qe (Qb (sMv rfl rfl rfl ?_)))
      refine Qa rfl (Qg rfl rfl rfl rfl rfl (QK (a := n1) (b := (1 : Int)))) ?_
      refine sMv rfl rfl rfl ?_
      rcases bC (decide (n1 < (1 : Int))) with hg5 | hg5
      ·replace h := br_t hg5 h
       refine Qh rfl rfl (cgb hg5) rfl rfl ?_
       refine Qh rfl rfl (cgb hg5) rfl rfl ?_
       refine Qh rfl rfl (cgb hg5) rfl rfl ?_
       refine Qh rfl rfl (cgb hg5) rfl rfl ?_
       refine Qa rfl (Qw rfl rfl rfl (cgb hg5) rfl) ?_
       refine nW [(8, some (.pointer (some ⟨b1, 0, none⟩))), (11, some v2), (12, some v3), (15, some (vI n1)), (67, some (vB true))] [some (Qd b1 37 [vU8 (0 : UInt8), vU8 (0 : UInt8), vU8 (0 : UInt8), vU8 (0 : UInt8), vU8 (0 : UInt8), vU8 (0 : UInt8), vU8 (0 : UInt8), vU8 (0 : UInt8), vU8 (0 : UInt8), vU8 (0 : UInt8), vU8 (0 : UInt8), vU8 (0 : UInt8), vI (0 : Int), vU16 (0 : UInt16), .slice none 0 0]), some (rowS u8S v2 from2.1), some (Qd b_m 82 [vm1, vm2]), some (Qj u8S true vm2 vsm1 m.b none)] [Fact.clo (cl66 b_m) v3 from2.2.1, Fact.sl Qf vm1 m.l] [8, 11, 12, 15, 67] [0, 1, 2, 3] [1, 2] rfl ?_
       refine Ql rfl ?_
       refine Qe (Qb (Qa rfl (Zd (v := .agg #[vU8 (0 : UInt8), vU8 (0 : UInt8), vU8 (0 : UInt8), vU8 (0 : UInt8), vU8 (0 : UInt8), vU8 (0 : UInt8), vU8 (0 : UInt8), vU8 (0 : UInt8), vU8 (0 : UInt8), vU8 (0 : UInt8), vU8 (0 : UInt8), vU8 (0 : UInt8), vI (0 : Int), vU16 (0 : UInt16), .slice none 0 0]) rfl rfl rfl rfl (bldV (by kernel_rfl))) ?_))
       refine Qa rfl (QE (cs' := [vU8 (0 : UInt8), vU8 (0 : UInt8), vU8 (0 : UInt8), vU8 (0 : UInt8), vU8 (0 : UInt8), vU8 (0 : UInt8), vU8 (0 : UInt8), vU8 (0 : UInt8), vU8 (0 : UInt8), vU8 (0 : UInt8), vU8 (0 : UInt8), vU8 (0 : UInt8), vI (0 : Int), vU16 (0 : UInt16), .slice none 0 0]) rfl rfl rfl rfl Xo (i := 0) rfl rfl rfl (ZE rfl) rfl) ?_
       refine sAs rfl rfl rfl ?_
       refine sAs rfl rfl rfl ?_
       refine nW [(8, some (.pointer (some ⟨b1, 0, none⟩))), (9, some (vI (0 : Int))), (10, some (vI (4 : Int)))] [some (Qd b1 37 [vU8 (0 : UInt8), vU8 (0 : UInt8), vU8 (0 : UInt8), vU8 (0 : UInt8), vU8 (0 : UInt8), vU8 (0 : UInt8), vU8 (0 : UInt8), vU8 (0 : UInt8), vU8 (0 : UInt8), vU8 (0 : UInt8), vU8 (0 : UInt8), vU8 (0 : UInt8), vI (0 : Int), vU16 (0 : UInt16), .slice none 0 0]), some (Qd b_m 82 [vm1, vm2]), some (Qj u8S true vm2 vsm1 m.b none)] [Fact.sl Qf vm1 m.l] [8, 9, 10] [0, 2, 3] [1] rfl ?_
       refine QI u8S ?_
       obtain rfl := Option.some.inj h
       exact Qn rfl rfl (resA (vs := [.agg #[vU8 (0 : UInt8), vU8 (0 : UInt8), vU8 (0 : UInt8), vU8 (0 : UInt8), vU8 (0 : UInt8), vU8 (0 : UInt8), vU8 (0 : UInt8), vU8 (0 : UInt8), vU8 (0 : UInt8), vU8 (0 : UInt8), vU8 (0 : UInt8), vU8 (0 : UInt8), vI (0 : Int), vU16 (0 : UInt16), .slice none 0 0], vI (0 : Int), vI (4 : Int)]) rfl ⟨⟨_, 0, _, _, _, rfl, rfl, .inl ⟨Xo, rfl, rfl⟩⟩, rfl, rfl, trivial⟩) [1, 2, 3] [] rfl rfl rfl ⟨(.slice none 0 0), rfl, rfl, rfl⟩
      ·replace h := br_f hg5 h
       refine Qi rfl rfl (cgb hg5) (Qk rfl rfl rfl rfl) ?_
       rintro _ rfl
       refine Qi rfl rfl (cgb hg5) (Qk rfl rfl rfl rfl) ?_
       rintro _ rfl
       refine Qi rfl rfl (cgb hg5) (QB rfl rfl rfl rfl Try.underlying59 (i := 0) rfl) ?_
       rintro _ rfl
       refine Qi rfl rfl (cgb hg5) (Qg rfl rfl rfl rfl rfl (ZD (a := n1) (b := len bufs))) ?_
       rintro _ rfl
       refine Qa rfl (Qu rfl rfl rfl (cgb hg5) rfl) ?_
       refine nW [(8, some (.pointer (some ⟨b1, 0, none⟩))), (11, some v2), (12, some v3), (15, some (vI n1)), (67, some (vB (decide (n1 > (len bufs)))))] [some (Qd b1 37 [vU8 (0 : UInt8), vU8 (0 : UInt8), vU8 (0 : UInt8), vU8 (0 : UInt8), vU8 (0 : UInt8), vU8 (0 : UInt8), vU8 (0 : UInt8), vU8 (0 : UInt8), vU8 (0 : UInt8), vU8 (0 : UInt8), vU8 (0 : UInt8), vU8 (0 : UInt8), vI (0 : Int), vU16 (0 : UInt16), .slice none 0 0]), some (rowS u8S v2 from2.1), some (Qd b_m 82 [vm1, vm2]), some (Qj u8S true vm2 vsm1 m.b none)] [Fact.clo (cl66 b_m) v3 from2.2.1, Fact.sl Qf vm1 m.l] [8, 11, 12, 15, 67] [0, 1, 2, 3] [1, 2] rfl ?_
       rcases bC (decide (n1 > (len bufs))) with hg6 | hg6
       ·replace h := br_t hg6 h
        refine Ql (cgb hg6) ?_
        refine Qe (Qb (Qa rfl (Zd (v := .agg #[vU8 (0 : UInt8), vU8 (0 : UInt8), vU8 (0 : UInt8), vU8 (0 : UInt8), vU8 (0 : UInt8), vU8 (0 : UInt8), vU8 (0 : UInt8), vU8 (0 : UInt8), vU8 (0 : UInt8), vU8 (0 : UInt8), vU8 (0 : UInt8), vU8 (0 : UInt8), vI (0 : Int), vU16 (0 : UInt16), .slice none 0 0]) rfl rfl rfl rfl (bldV (by kernel_rfl))) ?_))
        refine Qa rfl (QE (cs' := [vU8 (0 : UInt8), vU8 (0 : UInt8), vU8 (0 : UInt8), vU8 (0 : UInt8), vU8 (0 : UInt8), vU8 (0 : UInt8), vU8 (0 : UInt8), vU8 (0 : UInt8), vU8 (0 : UInt8), vU8 (0 : UInt8), vU8 (0 : UInt8), vU8 (0 : UInt8), vI (0 : Int), vU16 (0 : UInt16), .slice none 0 0]) rfl rfl rfl rfl Xo (i := 0) rfl rfl rfl (ZE rfl) rfl) ?_
        refine sAs rfl rfl rfl ?_
        refine sAs rfl rfl rfl ?_
        refine nW [(8, some (.pointer (some ⟨b1, 0, none⟩))), (9, some (vI (0 : Int))), (10, some (vI (4 : Int)))] [some (Qd b1 37 [vU8 (0 : UInt8), vU8 (0 : UInt8), vU8 (0 : UInt8), vU8 (0 : UInt8), vU8 (0 : UInt8), vU8 (0 : UInt8), vU8 (0 : UInt8), vU8 (0 : UInt8), vU8 (0 : UInt8), vU8 (0 : UInt8), vU8 (0 : UInt8), vU8 (0 : UInt8), vI (0 : Int), vU16 (0 : UInt16), .slice none 0 0]), some (Qd b_m 82 [vm1, vm2]), some (Qj u8S true vm2 vsm1 m.b none)] [Fact.sl Qf vm1 m.l] [8, 9, 10] [0, 2, 3] [1] rfl ?_
        refine QI u8S ?_
        obtain rfl := Option.some.inj h
        exact Qn rfl rfl (resA (vs := [.agg #[vU8 (0 : UInt8), vU8 (0 : UInt8), vU8 (0 : UInt8), vU8 (0 : UInt8), vU8 (0 : UInt8), vU8 (0 : UInt8), vU8 (0 : UInt8), vU8 (0 : UInt8), vU8 (0 : UInt8), vU8 (0 : UInt8), vU8 (0 : UInt8), vU8 (0 : UInt8), vI (0 : Int), vU16 (0 : UInt16), .slice none 0 0], vI (0 : Int), vI (4 : Int)]) rfl ⟨⟨_, 0, _, _, _, rfl, rfl, .inl ⟨Xo, rfl, rfl⟩⟩, rfl, rfl, trivial⟩) [1, 2, 3] [] rfl rfl rfl ⟨(.slice none 0 0), rfl, rfl, rfl⟩
       ·replace h := br_f hg6 h
        refine Qm (cgb hg6) ?_
        refine Qr (Qe (Qe (Qb (sMv rfl rfl rfl ?_))))
        refine Qa rfl (Qg rfl rfl rfl rfl rfl (Xu (a := n1) (b := (1 : Int)))) ?_
        refine sMv rfl rfl rfl ?_
        refine nW [(8, some (.pointer (some ⟨b1, 0, none⟩))), (11, some v2), (12, some v3), (15, some (vI n1)), (70, some (vI (wi (n1 - (1 : Int))))), (71, some (vI (0 : Int)))] [some (Qd b1 37 [vU8 (0 : UInt8), vU8 (0 : UInt8), vU8 (0 : UInt8), vU8 (0 : UInt8), vU8 (0 : UInt8), vU8 (0 : UInt8), vU8 (0 : UInt8), vU8 (0 : UInt8), vU8 (0 : UInt8), vU8 (0 : UInt8), vU8 (0 : UInt8), vU8 (0 : UInt8), vI (0 : Int), vU16 (0 : UInt16), .slice none 0 0]), some (rowS u8S v2 from2.1), some (Qd b_m 82 [vm1, vm2]), some (Qj u8S true vm2 vsm1 m.b none)] [Fact.clo (cl66 b_m) v3 from2.2.1, Fact.sl Qf vm1 m.l] [8, 11, 12, 15, 70, 71] [0, 1, 2, 3] [0, 1] rfl ?_
        refine Qz (Tk_nilfact u8S ?_)
        refine Zc (σ := (A6 UInt8) × (A6 UInt8) × Int × UInt16 × (List UInt8) × (List UInt8) × (Option Clo66) × Int × Value × Value × Value) [8, 11, 12, 15, 70, 71] [0, 1, 2, 3] [2, 0, 1] (fun s => ⟨[(8, some (.pointer (some ⟨b1, 0, none⟩))), (11, some (s.2.2.2.2.2.2.2.2.2.1)), (12, some (s.2.2.2.2.2.2.2.2.2.2)), (15, some (vI n1)), (70, some (vI (wi (n1 - (1 : Int))))), (71, some (vI s.2.2.2.2.2.2.2.1))], [some (Qd b1 37 [vU8 s.1.a0, vU8 s.1.a1, vU8 s.1.a2, vU8 s.1.a3, vU8 s.1.a4, vU8 s.1.a5, vU8 s.2.1.a0, vU8 s.2.1.a1, vU8 s.2.1.a2, vU8 s.2.1.a3, vU8 s.2.1.a4, vU8 s.2.1.a5, vI s.2.2.1, vU16 s.2.2.2.1, s.2.2.2.2.2.2.2.2.1]), some (rowS u8S s.2.2.2.2.2.2.2.2.2.1 s.2.2.2.2.2.1), some (Qd b_m 82 [vm1, vm2]), some (Qj u8S true vm2 vsm1 m.b none)], [Fact.sl u8S s.2.2.2.2.2.2.2.2.1 s.2.2.2.2.1, Fact.clo (cl66 b_m) s.2.2.2.2.2.2.2.2.2.2 s.2.2.2.2.2.2.1, Fact.sl Qf vm1 m.l]⟩) (fun nf2 s => YY m n1 nf2 s.1 s.2.1 s.2.2.1 s.2.2.2.1 s.2.2.2.2.1 s.2.2.2.2.2.1 s.2.2.2.2.2.2.1 s.2.2.2.2.2.2.2.1 = some r) fuel ((A6.mk (0 : UInt8) (0 : UInt8) (0 : UInt8) (0 : UInt8) (0 : UInt8) (0 : UInt8)), (A6.mk (0 : UInt8) (0 : UInt8) (0 : UInt8) (0 : UInt8) (0 : UInt8) (0 : UInt8)), (0 : Int), (0 : UInt16), ([] : List UInt8), from2.1, from2.2.1, (0 : Int), .slice none 0 0, v2, v3) h rfl rfl rfl rfl rfl (fun s h => by cases h) ?_
        rintro nf2 ⟨Dst1, Src1, Vlan1, Type1, Data1, b3, next1, x1, v4, v5, v6⟩ h
        replace h : netdrv_OneL2B m n1 (YY m n1 nf2) Dst1 Src1 Vlan1 Type1 Data1 b3 next1 x1 = some r := h
        unfold netdrv_OneL2B at h
        refine Qe (Qb (Qa rfl (Qg rfl rfl rfl rfl rfl (QK (a := x1) (b := wi (n1 - (1 : Int))))) ?_))
        refine QT (Qe ?_)
        rcases bC (decide (x1 < (wi (n1 - (1 : Int))))) with hg7 | hg7
        ·replace h := br_t hg7 h
         refine Ql (cgb hg7) ?_
         refine Qr (Qe (Qz (Qe (Qb (sAs rfl rfl rfl ?_)))))
         refine nW [(8, some (.pointer (some ⟨b1, 0, none⟩))), (11, some v5), (12, some v6), (15, some (vI n1)), (70, some (vI (wi (n1 - (1 : Int))))), (71, some (vI x1))] [some (Qd b1 37 [vU8 Dst1.a0, vU8 Dst1.a1, vU8 Dst1.a2, vU8 Dst1.a3, vU8 Dst1.a4, vU8 Dst1.a5, vU8 Src1.a0, vU8 Src1.a1, vU8 Src1.a2, vU8 Src1.a3, vU8 Src1.a4, vU8 Src1.a5, vI Vlan1, vU16 Type1, v4]), some (rowS u8S v5 b3), some (Qd b_m 82 [vm1, vm2]), some (Qj u8S true vm2 vsm1 m.b none)] [Fact.sl u8S v4 Data1, Fact.clo (cl66 b_m) v6 next1, Fact.sl Qf vm1 m.l] [8, 11, 12, 15, 70, 71] [0, 1, 2, 3] [0, 1, 2] rfl ?_
         refine Qe (Qe (Qb (sMv rfl rfl rfl ?_)))
         obtain ⟨clo2, hx6, h⟩ := ob_e h
         refine Tops_clo (i := 1) rfl hx6 cl66_in ?_
         rintro ⟨p4, p5, p6⟩ rfl
         obtain ⟨from3, hx7, h⟩ := ob_e h
         refine Qt rfl (QW [0, 1, 4, 5, 6] (w_netdrv_from_1 hx7) [2, 3] [3, 2, 4, 5] rfl rfl rfl rfl rfl callee66 rfl rfl rfl rfl rfl) ?_
         rintro _ ⟨_, _, _, ⟨v7, v8, rfl, rfl, rfl⟩, rfl⟩
         refine sMv rfl rfl rfl ?_
         refine Qa rfl (Qs rfl rfl rfl rfl rfl) ?_
         refine Qa rfl (Qs rfl rfl rfl rfl rfl) ?_
         refine Qa rfl (Qs rfl rfl rfl rfl rfl) ?_
         refine sAs rfl rfl rfl ?_
         refine sAs rfl rfl rfl ?_
         refine sAs rfl rfl rfl ?_
         refine nW [(8, some (.pointer (some ⟨b1, 0, none⟩))), (11, some v5), (12, some v8), (15, some (vI n1)), (70, some (vI (wi (n1 - (1 : Int))))), (71, some (vI x1)), (16, some v7), (13, some (vI from3.2.2))] [some (Qd b1 37 [vU8 Dst1.a0, vU8 Dst1.a1, vU8 Dst1.a2, vU8 Dst1.a3, vU8 Dst1.a4, vU8 Dst1.a5, vU8 Src1.a0, vU8 Src1.a1, vU8 Src1.a2, vU8 Src1.a3, vU8 Src1.a4, vU8 Src1.a5, vI Vlan1, vU16 Type1, v4]), some (rowS u8S v5 b3), some (Qd b_m 82 [vm1, vm2]), some (Qj u8S true vm2 vsm1 m.b none), some (rowS u8S v7 from3.1)] [Fact.sl u8S v4 Data1, Fact.sl Qf vm1 m.l, Fact.clo (cl66 b_m) v8 from3.2.1] [8, 11, 12, 15, 70, 71, 16, 13] [0, 1, 2, 3, 4] [0, 2, 6] rfl ?_
         refine Qe (Qb (sMv rfl rfl rfl ?_))
         refine Qa rfl (Qg rfl rfl rfl rfl rfl (QU (a := from3.2.2) (b := (0 : Int)))) ?_
         refine nW [(8, some (.pointer (some ⟨b1, 0, none⟩))), (11, some v5), (12, some v8), (15, some (vI n1)), (70, some (vI (wi (n1 - (1 : Int))))), (71, some (vI x1)), (16, some v7), (13, some (vI from3.2.2)), (80, some (vB (from3.2.2 != (0 : Int))))] [some (Qd b1 37 [vU8 Dst1.a0, vU8 Dst1.a1, vU8 Dst1.a2, vU8 Dst1.a3, vU8 Dst1.a4, vU8 Dst1.a5, vU8 Src1.a0, vU8 Src1.a1, vU8 Src1.a2, vU8 Src1.a3, vU8 Src1.a4, vU8 Src1.a5, vI Vlan1, vU16 Type1, v4]), some (rowS u8S v5 b3), some (Qd b_m 82 [vm1, vm2]), some (Qj u8S true vm2 vsm1 m.b none), some (rowS u8S v7 from3.1)] [Fact.sl u8S v4 Data1, Fact.sl Qf vm1 m.l, Fact.clo (cl66 b_m) v8 from3.2.1] [8, 11, 12, 15, 70, 71, 16, 13, 80] [0, 1, 2, 3, 4] [0, 1, 2] rfl ?_
         rcases bC (from3.2.2 != (0 : Int)) with hg8 | hg8
         ·replace h := br_t hg8 h
          refine Ql (cgb hg8) ?_
          refine Qe (Qb (Qa rfl (Zd (v := .agg #[vU8 (0 : UInt8), vU8 (0 : UInt8), vU8 (0 : UInt8), vU8 (0 : UInt8), vU8 (0 : UInt8), vU8 (0 : UInt8), vU8 (0 : UInt8), vU8 (0 : UInt8), vU8 (0 : UInt8), vU8 (0 : UInt8), vU8 (0 : UInt8), vU8 (0 : UInt8), vI (0 : Int), vU16 (0 : UInt16), .slice none 0 0]) rfl rfl rfl rfl (bldV (by kernel_rfl))) ?_))
          refine sMv rfl rfl rfl ?_
          refine Qa rfl (QE (cs' := [vU8 (0 : UInt8), vU8 (0 : UInt8), vU8 (0 : UInt8), vU8 (0 : UInt8), vU8 (0 : UInt8), vU8 (0 : UInt8), vU8 (0 : UInt8), vU8 (0 : UInt8), vU8 (0 : UInt8), vU8 (0 : UInt8), vU8 (0 : UInt8), vU8 (0 : UInt8), vI (0 : Int), vU16 (0 : UInt16), .slice none 0 0]) rfl rfl rfl rfl Xo (i := 0) rfl rfl rfl (ZE rfl) rfl) ?_
          refine sAs rfl rfl rfl ?_
          refine sAs rfl rfl rfl ?_
          refine nW [(8, some (.pointer (some ⟨b1, 0, none⟩))), (9, some (vI (0 : Int))), (10, some (vI from3.2.2))] [some (Qd b1 37 [vU8 (0 : UInt8), vU8 (0 : UInt8), vU8 (0 : UInt8), vU8 (0 : UInt8), vU8 (0 : UInt8), vU8 (0 : UInt8), vU8 (0 : UInt8), vU8 (0 : UInt8), vU8 (0 : UInt8), vU8 (0 : UInt8), vU8 (0 : UInt8), vU8 (0 : UInt8), vI (0 : Int), vU16 (0 : UInt16), .slice none 0 0]), some (Qd b_m 82 [vm1, vm2]), some (Qj u8S true vm2 vsm1 m.b none)] [Fact.sl Qf vm1 m.l] [8, 9, 10] [0, 2, 3] [1] rfl ?_
          refine QI u8S ?_
          obtain rfl := Option.some.inj h
          exact Qn rfl rfl (resA (vs := [.agg #[vU8 (0 : UInt8), vU8 (0 : UInt8), vU8 (0 : UInt8), vU8 (0 : UInt8), vU8 (0 : UInt8), vU8 (0 : UInt8), vU8 (0 : UInt8), vU8 (0 : UInt8), vU8 (0 : UInt8), vU8 (0 : UInt8), vU8 (0 : UInt8), vU8 (0 : UInt8), vI (0 : Int), vU16 (0 : UInt16), .slice none 0 0], vI (0 : Int), vI from3.2.2]) rfl ⟨⟨_, 0, _, _, _, rfl, rfl, .inl ⟨Xo, rfl, rfl⟩⟩, rfl, rfl, trivial⟩) [1, 2, 3] [] rfl rfl rfl ⟨(.slice none 0 0), rfl, rfl, rfl⟩
         ·replace h := br_f hg8 h
          refine Qm (cgb hg8) ?_
          refine Qr (Qb (sMv rfl rfl rfl ?_))
          refine sMv rfl rfl rfl ?_
          obtain ⟨hc1, h⟩ := Zi h
          refine Qq rfl (ZH (S := u8S) rfl rfl rfl rfl rfl rfl Xg (i := 1) (j := 4) rfl rfl hc1) fun v9 => ?_
          refine sAs rfl rfl rfl ?_
          refine nW [(8, some (.pointer (some ⟨b1, 0, none⟩))), (11, some v9), (12, some v8), (15, some (vI n1)), (70, some (vI (wi (n1 - (1 : Int))))), (71, some (vI x1))] [some (Qd b1 37 [vU8 Dst1.a0, vU8 Dst1.a1, vU8 Dst1.a2, vU8 Dst1.a3, vU8 Dst1.a4, vU8 Dst1.a5, vU8 Src1.a0, vU8 Src1.a1, vU8 Src1.a2, vU8 Src1.a3, vU8 Src1.a4, vU8 Src1.a5, vI Vlan1, vU16 Type1, v4]), some (rowS u8S v9 (b3 ++ from3.1)), some (Qd b_m 82 [vm1, vm2]), some (Qj u8S true vm2 vsm1 m.b none)] [Fact.sl u8S v4 Data1, Fact.sl Qf vm1 m.l, Fact.clo (cl66 b_m) v8 from3.2.1] [8, 11, 12, 15, 70, 71] [0, 1, 2, 3] [0, 1, 2] rfl ?_
          refine Zk (Qb (Qa rfl (Qg rfl rfl rfl rfl rfl (Qx (a := x1) (b := (1 : Int)))) ?_))
          refine sMv rfl rfl rfl ?_
          refine nW [(8, some (.pointer (some ⟨b1, 0, none⟩))), (11, some v9), (12, some v8), (15, some (vI n1)), (70, some (vI (wi (n1 - (1 : Int))))), (71, some (vI (wi (x1 + (1 : Int)))))] [some (Qd b1 37 [vU8 Dst1.a0, vU8 Dst1.a1, vU8 Dst1.a2, vU8 Dst1.a3, vU8 Dst1.a4, vU8 Dst1.a5, vU8 Src1.a0, vU8 Src1.a1, vU8 Src1.a2, vU8 Src1.a3, vU8 Src1.a4, vU8 Src1.a5, vI Vlan1, vU16 Type1, v4]), some (rowS u8S v9 (b3 ++ from3.1)), some (Qd b_m 82 [vm1, vm2]), some (Qj u8S true vm2 vsm1 m.b none)] [Fact.sl u8S v4 Data1, Fact.sl Qf vm1 m.l, Fact.clo (cl66 b_m) v8 from3.2.1] [8, 11, 12, 15, 70, 71] [0, 1, 2, 3] [0, 1, 2] rfl ?_
          exact QN (Dst1, Src1, Vlan1, Type1, Data1, b3 ++ from3.1, from3.2.1, wi (x1 + (1 : Int)), v4, v9, v8) h [8, 11, 12, 15, 70, 71] [0, 1, 2, 3] [0, 2, 1] rfl rfl rfl rfl rfl
        ·replace h := br_f hg7 h
         refine Qm (cgb hg7) ?_
         refine Zf _ rfl ?_
         refine Qe (Qb (sMv rfl rfl rfl ?_))
         obtain ⟨hc2, h⟩ := Zi h
         refine Qa rfl (OpT_subL (S := u8S) (l := (12 : Int)) rfl rfl rfl rfl rfl Xg (i := 1) rfl hc2) ?_
         obtain ⟨read1, hx8, h⟩ := ob_e h
         refine Qt rfl (Zj [1] [0, 1, 2, 3, 4] (w_frame_Read hx8) [] rfl rfl rfl rfl rfl callee56 rfl rfl rfl rfl rfl rfl (QV (bor_sub (S := u8S) (l := (12 : Int)) (m := (len b3)) 1 rfl rfl hc2) Xe) (by rintro _ _ _ ⟨_, rfl, rfl, rfl⟩; exact ⟨rfl, (ZL (ri_row (S := u8S) rfl _ _) Ye)⟩)) ?_
         rintro _ ⟨_, _, _, ⟨v10, rfl, rfl, rfl⟩, rfl⟩
         refine sMv rfl rfl rfl ?_
         refine Qa rfl (Qs rfl rfl rfl rfl rfl) ?_
         refine Qa rfl (Qs rfl rfl rfl rfl rfl) ?_
         refine Qq rfl (Zq rfl rfl rfl tyZ37) fun b4 => ?_
         refine Qa rfl (OpT_storeA1 (fun z0 => [vU8 read1.1.Dst.a0, vU8 read1.1.Dst.a1, vU8 read1.1.Dst.a2, vU8 read1.1.Dst.a3, vU8 read1.1.Dst.a4, vU8 read1.1.Dst.a5, vU8 read1.1.Src.a0, vU8 read1.1.Src.a1, vU8 read1.1.Src.a2, vU8 read1.1.Src.a3, vU8 read1.1.Src.a4, vU8 read1.1.Src.a5, vI read1.1.Vlan, vU16 read1.1.Type_, z0]) (cs' := [vU8 read1.1.Dst.a0, vU8 read1.1.Dst.a1, vU8 read1.1.Dst.a2, vU8 read1.1.Dst.a3, vU8 read1.1.Dst.a4, vU8 read1.1.Dst.a5, vU8 read1.1.Src.a0, vU8 read1.1.Src.a1, vU8 read1.1.Src.a2, vU8 read1.1.Src.a3, vU8 read1.1.Src.a4, vU8 read1.1.Src.a5, vI read1.1.Vlan, vU16 read1.1.Type_, v10]) rfl rfl rfl rfl Xo (i := 5) rfl (is_row (i := 4) rfl) (fun _ _ _ => rfl) rfl rfl rfl) ?_
         refine sAs rfl rfl rfl ?_
         refine nW [(8, some (.pointer (some ⟨b1, 0, none⟩))), (15, some (vI n1)), (17, some (.pointer (some ⟨b4, 0, none⟩))), (13, some (vI read1.2))] [some (Qd b1 37 [vU8 Dst1.a0, vU8 Dst1.a1, vU8 Dst1.a2, vU8 Dst1.a3, vU8 Dst1.a4, vU8 Dst1.a5, vU8 Src1.a0, vU8 Src1.a1, vU8 Src1.a2, vU8 Src1.a3, vU8 Src1.a4, vU8 Src1.a5, vI Vlan1, vU16 Type1, v4]), some (Qd b_m 82 [vm1, vm2]), some (Qj u8S true vm2 vsm1 m.b none), some (rowS u8S v10 read1.1.Data), some (Qd b4 37 [vU8 read1.1.Dst.a0, vU8 read1.1.Dst.a1, vU8 read1.1.Dst.a2, vU8 read1.1.Dst.a3, vU8 read1.1.Dst.a4, vU8 read1.1.Dst.a5, vU8 read1.1.Src.a0, vU8 read1.1.Src.a1, vU8 read1.1.Src.a2, vU8 read1.1.Src.a3, vU8 read1.1.Src.a4, vU8 read1.1.Src.a5, vI read1.1.Vlan, vU16 read1.1.Type_, v10])] [Fact.sl u8S v4 Data1, Fact.sl Qf vm1 m.l] [8, 15, 17, 13] [0, 2, 3, 4, 5] [0, 2] rfl ?_
         refine Qe (Qe (Qb (sMv rfl rfl rfl ?_)))
         refine Qa rfl (Qg rfl rfl rfl rfl rfl (QU (a := read1.2) (b := (0 : Int)))) ?_
         refine nW [(8, some (.pointer (some ⟨b1, 0, none⟩))), (15, some (vI n1)), (17, some (.pointer (some ⟨b4, 0, none⟩))), (13, some (vI read1.2)), (94, some (vB (read1.2 != (0 : Int))))] [some (Qd b1 37 [vU8 Dst1.a0, vU8 Dst1.a1, vU8 Dst1.a2, vU8 Dst1.a3, vU8 Dst1.a4, vU8 Dst1.a5, vU8 Src1.a0, vU8 Src1.a1, vU8 Src1.a2, vU8 Src1.a3, vU8 Src1.a4, vU8 Src1.a5, vI Vlan1, vU16 Type1, v4]), some (Qd b_m 82 [vm1, vm2]), some (Qj u8S true vm2 vsm1 m.b none), some (rowS u8S v10 read1.1.Data), some (Qd b4 37 [vU8 read1.1.Dst.a0, vU8 read1.1.Dst.a1, vU8 read1.1.Dst.a2, vU8 read1.1.Dst.a3, vU8 read1.1.Dst.a4, vU8 read1.1.Dst.a5, vU8 read1.1.Src.a0, vU8 read1.1.Src.a1, vU8 read1.1.Src.a2, vU8 read1.1.Src.a3, vU8 read1.1.Src.a4, vU8 read1.1.Src.a5, vI read1.1.Vlan, vU16 read1.1.Type_, v10])] [Fact.sl u8S v4 Data1, Fact.sl Qf vm1 m.l] [8, 15, 17, 13, 94] [0, 1, 2, 3, 4] [0, 1] rfl ?_
         rcases bC (read1.2 != (0 : Int)) with hg9 | hg9
         ·replace h := br_t hg9 h
          refine Ql (cgb hg9) ?_
          refine Qe (Qb (Qa rfl (Zd (v := .agg #[vU8 (0 : UInt8), vU8 (0 : UInt8), vU8 (0 : UInt8), vU8 (0 : UInt8), vU8 (0 : UInt8), vU8 (0 : UInt8), vU8 (0 : UInt8), vU8 (0 : UInt8), vU8 (0 : UInt8), vU8 (0 : UInt8), vU8 (0 : UInt8), vU8 (0 : UInt8), vI (0 : Int), vU16 (0 : UInt16), .slice none 0 0]) rfl rfl rfl rfl (bldV (by kernel_rfl))) ?_))
          refine sMv rfl rfl rfl ?_
          refine Qa rfl (QE (cs' := [vU8 (0 : UInt8), vU8 (0 : UInt8), vU8 (0 : UInt8), vU8 (0 : UInt8), vU8 (0 : UInt8), vU8 (0 : UInt8), vU8 (0 : UInt8), vU8 (0 : UInt8), vU8 (0 : UInt8), vU8 (0 : UInt8), vU8 (0 : UInt8), vU8 (0 : UInt8), vI (0 : Int), vU16 (0 : UInt16), .slice none 0 0]) rfl rfl rfl rfl Xo (i := 0) rfl rfl rfl (ZE rfl) rfl) ?_
          refine sAs rfl rfl rfl ?_
          refine sAs rfl rfl rfl ?_
          refine nW [(8, some (.pointer (some ⟨b1, 0, none⟩))), (9, some (vI (0 : Int))), (10, some (vI read1.2))] [some (Qd b1 37 [vU8 (0 : UInt8), vU8 (0 : UInt8), vU8 (0 : UInt8), vU8 (0 : UInt8), vU8 (0 : UInt8), vU8 (0 : UInt8), vU8 (0 : UInt8), vU8 (0 : UInt8), vU8 (0 : UInt8), vU8 (0 : UInt8), vU8 (0 : UInt8), vU8 (0 : UInt8), vI (0 : Int), vU16 (0 : UInt16), .slice none 0 0]), some (Qd b_m 82 [vm1, vm2]), some (Qj u8S true vm2 vsm1 m.b none)] [Fact.sl Qf vm1 m.l] [8, 9, 10] [0, 1, 2] [1] rfl ?_
          refine QI u8S ?_
          obtain rfl := Option.some.inj h
          exact Qn rfl rfl (resA (vs := [.agg #[vU8 (0 : UInt8), vU8 (0 : UInt8), vU8 (0 : UInt8), vU8 (0 : UInt8), vU8 (0 : UInt8), vU8 (0 : UInt8), vU8 (0 : UInt8), vU8 (0 : UInt8), vU8 (0 : UInt8), vU8 (0 : UInt8), vU8 (0 : UInt8), vU8 (0 : UInt8), vI (0 : Int), vU16 (0 : UInt16), .slice none 0 0], vI (0 : Int), vI read1.2]) rfl ⟨⟨_, 0, _, _, _, rfl, rfl, .inl ⟨Xo, rfl, rfl⟩⟩, rfl, rfl, trivial⟩) [1, 2, 3] [] rfl rfl rfl ⟨(.slice none 0 0), rfl, rfl, rfl⟩
         ·replace h := br_f hg9 h
          refine Qm (cgb hg9) ?_
          refine Qr (Qe (Qb (Qa rfl (Zx (vs := [vU8 read1.1.Dst.a0, vU8 read1.1.Dst.a1, vU8 read1.1.Dst.a2, vU8 read1.1.Dst.a3, vU8 read1.1.Dst.a4, vU8 read1.1.Dst.a5, vU8 read1.1.Src.a0, vU8 read1.1.Src.a1, vU8 read1.1.Src.a2, vU8 read1.1.Src.a3, vU8 read1.1.Src.a4, vU8 read1.1.Src.a5, vI read1.1.Vlan, vU16 read1.1.Type_, v10]) rfl rfl rfl rfl Xo (i := 4) rfl rfl rfl) ?_)))
          refine sMv rfl rfl rfl ?_
          refine Qa rfl (OpT_storeA1 (fun z0 => [vU8 read1.1.Dst.a0, vU8 read1.1.Dst.a1, vU8 read1.1.Dst.a2, vU8 read1.1.Dst.a3, vU8 read1.1.Dst.a4, vU8 read1.1.Dst.a5, vU8 read1.1.Src.a0, vU8 read1.1.Src.a1, vU8 read1.1.Src.a2, vU8 read1.1.Src.a3, vU8 read1.1.Src.a4, vU8 read1.1.Src.a5, vI read1.1.Vlan, vU16 read1.1.Type_, z0]) (cs' := [vU8 read1.1.Dst.a0, vU8 read1.1.Dst.a1, vU8 read1.1.Dst.a2, vU8 read1.1.Dst.a3, vU8 read1.1.Dst.a4, vU8 read1.1.Dst.a5, vU8 read1.1.Src.a0, vU8 read1.1.Src.a1, vU8 read1.1.Src.a2, vU8 read1.1.Src.a3, vU8 read1.1.Src.a4, vU8 read1.1.Src.a5, vI read1.1.Vlan, vU16 read1.1.Type_, v10]) rfl rfl rfl rfl Xo (i := 0) rfl (is_row (i := 3) rfl) (fun _ _ _ => rfl) rfl rfl rfl) ?_
          refine sAs rfl rfl rfl ?_
          refine sAs rfl rfl rfl ?_
          refine nW [(8, some (.pointer (some ⟨b1, 0, none⟩))), (9, some (vI n1)), (10, some (vI (0 : Int)))] [some (Qd b1 37 [vU8 read1.1.Dst.a0, vU8 read1.1.Dst.a1, vU8 read1.1.Dst.a2, vU8 read1.1.Dst.a3, vU8 read1.1.Dst.a4, vU8 read1.1.Dst.a5, vU8 read1.1.Src.a0, vU8 read1.1.Src.a1, vU8 read1.1.Src.a2, vU8 read1.1.Src.a3, vU8 read1.1.Src.a4, vU8 read1.1.Src.a5, vI read1.1.Vlan, vU16 read1.1.Type_, v10]), some (Qd b_m 82 [vm1, vm2]), some (Qj u8S true vm2 vsm1 m.b none), some (rowS u8S v10 read1.1.Data)] [Fact.sl Qf vm1 m.l] [8, 9, 10] [0, 1, 2, 3] [1] rfl ?_
          obtain rfl := Option.some.inj h
          exact Qn rfl rfl (resA (vs := [.agg #[vU8 read1.1.Dst.a0, vU8 read1.1.Dst.a1, vU8 read1.1.Dst.a2, vU8 read1.1.Dst.a3, vU8 read1.1.Dst.a4, vU8 read1.1.Dst.a5, vU8 read1.1.Src.a0, vU8 read1.1.Src.a1, vU8 read1.1.Src.a2, vU8 read1.1.Src.a3, vU8 read1.1.Src.a4, vU8 read1.1.Src.a5, vI read1.1.Vlan, vU16 read1.1.Type_, v10], vI n1, vI (0 : Int)]) rfl ⟨⟨_, 0, _, _, _, rfl, rfl, .inl ⟨Xo, rfl, rfl⟩⟩, rfl, rfl, trivial⟩) [1, 2, 3] [] rfl rfl rfl ⟨v10, rfl, rfl, rfl⟩
     ·intro HJ1
      rcases bC (has1) with hg10 | hg10
      ·replace h := br_t hg10 h
       refine Ql (cgb hg10) ?_
       refine Qb (Qa rfl (Qo rfl rfl rfl rfl fldF88x3) ?_)
       refine Qa rfl (Qp rfl rfl rfl rfl tyF34 (i := 4) rfl rfl) ?_
       refine Qa rfl (QM rfl rfl rfl rfl (cnv_u16_i (n := readhd1.1.Buffers) Try.underlying34 Try.underlying3)) ?_
       refine sAs rfl rfl rfl ?_
       refine nW [(2, some vbufs1), (8, some (.pointer (some ⟨b1, 0, none⟩))), (11, some v2), (12, some v3), (15, some (vI (i16 readhd1.1.Buffers)))] [some (Qd b_m 82 [vm1, vm2]), some (Qj u8S true vm2 vsm1 m.b none), some (Qd b1 37 [vU8 (0 : UInt8), vU8 (0 : UInt8), vU8 (0 : UInt8), vU8 (0 : UInt8), vU8 (0 : UInt8), vU8 (0 : UInt8), vU8 (0 : UInt8), vU8 (0 : UInt8), vU8 (0 : UInt8), vU8 (0 : UInt8), vU8 (0 : UInt8), vU8 (0 : UInt8), vI (0 : Int), vU16 (0 : UInt16), .slice none 0 0]), some (rowS u8S v2 from2.1)] [Fact.sl Qf vm1 m.l, Fact.sl (Shape.slice SegS) vbufs1 bufs, Fact.clo (cl66 b_m) v3 from2.2.1] [2, 8, 11, 12, 15] [0, 1, 2, 3] [0, 1, 2] rfl ?_
       exact ZP (HJ1 (i16 readhd1.1.Buffers) h) [2, 8, 11, 12, 15] [2, 3, 0, 1] [1, 2, 0] rfl rfl rfl rfl
      ·replace h := br_f hg10 h
       refine Qm (cgb hg10) ?_
       refine Qr ?_
       exact ZP (HJ1 (1 : Int) h) [2, 8, 11, 12, 15] [2, 3, 0, 1] [1, 2, 0] rfl rfl rfl rfl

set_option maxRecDepth 100000 in
set_option maxHeartbeats 4000000 in
theorem w_kit_Frame {ap0 : Frame} {b : Frame} {vap01 : Value} {vb1 : Value} {r : Bool} (h : kit_Frame ap0 b = some r) :
  Ctr Try.prog 19 #[.agg #[vU8 ap0.Dst.a0, vU8 ap0.Dst.a1, vU8 ap0.Dst.a2, vU8 ap0.Dst.a3, vU8 ap0.Dst.a4, vU8 ap0.Dst.a5, vU8 ap0.Src.a0, vU8 ap0.Src.a1, vU8 ap0.Src.a2, vU8 ap0.Src.a3, vU8 ap0.Src.a4, vU8 ap0.Src.a5, vI ap0.Vlan, vU16 ap0.Type_, vap01], .agg #[vU8 b.Dst.a0, vU8 b.Dst.a1, vU8 b.Dst.a2, vU8 b.Dst.a3, vU8 b.Dst.a4, vU8 b.Dst.a5, vU8 b.Src.a0, vU8 b.Src.a1, vU8 b.Src.a2, vU8 b.Src.a3, vU8 b.Src.a4, vU8 b.Src.a5, vI b.Vlan, vU16 b.Type_, vb1]] [] [Fact.sl u8S vap01 ap0.Data, Fact.sl u8S vb1 b.Data]
   (fun rv own shr => rv = vB r ∧ own = [] ∧ shr = []) := by
 unfold kit_Frame at h
 refine Ctr.mk (args := [.agg #[vU8 ap0.Dst.a0, vU8 ap0.Dst.a1, vU8 ap0.Dst.a2, vU8 ap0.Dst.a3, vU8 ap0.Dst.a4, vU8 ap0.Dst.a5, vU8 ap0.Src.a0, vU8 ap0.Src.a1, vU8 ap0.Src.a2, vU8 ap0.Src.a3, vU8 ap0.Src.a4, vU8 ap0.Src.a5, vI ap0.Vlan, vU16 ap0.Type_, vap01], .agg #[vU8 b.Dst.a0, vU8 b.Dst.a1, vU8 b.Dst.a2, vU8 b.Dst.a3, vU8 b.Dst.a4, vU8 b.Dst.a5, vU8 b.Src.a0, vU8 b.Src.a1, vU8 b.Src.a2, vU8 b.Src.a3, vU8 b.Src.a4, vU8 b.Src.a5, vI b.Vlan, vU16 b.Type_, vb1]]) Try.func19 rfl rfl (fun R0 w0 B => ?_)
 refine Qe (Qb (Qq rfl (YG rfl rfl rfl rfl) fun b1 => ?_))
 refine Qq rfl (YG rfl rfl rfl rfl) fun b2 => ?_
 refine sAs rfl rfl rfl ?_
 refine nW [(2, some (.pointer (some ⟨b1, 0, none⟩))), (3, some (.pointer (some ⟨b2, 0, none⟩)))] [some (Qd b1 37 [vU8 ap0.Dst.a0, vU8 ap0.Dst.a1, vU8 ap0.Dst.a2, vU8 ap0.Dst.a3, vU8 ap0.Dst.a4, vU8 ap0.Dst.a5, vU8 ap0.Src.a0, vU8 ap0.Src.a1, vU8 ap0.Src.a2, vU8 ap0.Src.a3, vU8 ap0.Src.a4, vU8 ap0.Src.a5, vI ap0.Vlan, vU16 ap0.Type_, vap01]), some (Qd b2 37 [vU8 b.Dst.a0, vU8 b.Dst.a1, vU8 b.Dst.a2, vU8 b.Dst.a3, vU8 b.Dst.a4, vU8 b.Dst.a5, vU8 b.Src.a0, vU8 b.Src.a1, vU8 b.Src.a2, vU8 b.Src.a3, vU8 b.Src.a4, vU8 b.Src.a5, vI b.Vlan, vU16 b.Type_, vb1])] [Fact.sl u8S vap01 ap0.Data, Fact.sl u8S vb1 b.Data] [2, 3] [0, 1] [0, 1] rfl ?_
 refine Qe (Qb (Qa rfl (Qo rfl rfl rfl rfl fldF37x0) ?_))
 refine Qa rfl (Zx (vs := [vU8 ap0.Dst.a0, vU8 ap0.Dst.a1, vU8 ap0.Dst.a2, vU8 ap0.Dst.a3, vU8 ap0.Dst.a4, vU8 ap0.Dst.a5]) rfl rfl rfl rfl tyF33 (i := 0) rfl rfl rfl) ?_
 refine Qa rfl (Qo rfl rfl rfl rfl fldF37x0) ?_
 refine Qa rfl (Zx (vs := [vU8 b.Dst.a0, vU8 b.Dst.a1, vU8 b.Dst.a2, vU8 b.Dst.a3, vU8 b.Dst.a4, vU8 b.Dst.a5]) rfl rfl rfl rfl tyF33 (i := 1) rfl rfl rfl) ?_
 refine Qa rfl (Qg rfl rfl rfl rfl rfl (eqT33_eql ap0.Dst b.Dst)) ?_
 refine sMv rfl rfl rfl ?_
 rcases bC (ap0.Dst == b.Dst) with hg1 | hg1
 ·replace h := br_t hg1 h
  refine Qi rfl rfl (cgb hg1) (Qo rfl rfl rfl rfl fldF37x1) ?_
  rintro _ rfl
  refine Qi rfl rfl (cgb hg1) (Zx (vs := [vU8 ap0.Src.a0, vU8 ap0.Src.a1, vU8 ap0.Src.a2, vU8 ap0.Src.a3, vU8 ap0.Src.a4, vU8 ap0.Src.a5]) rfl rfl rfl rfl tyF33 (i := 0) rfl rfl rfl) ?_
  rintro _ rfl
  refine Qi rfl rfl (cgb hg1) (Qo rfl rfl rfl rfl fldF37x1) ?_
  rintro _ rfl
  refine Qi rfl rfl (cgb hg1) (Zx (vs := [vU8 b.Src.a0, vU8 b.Src.a1, vU8 b.Src.a2, vU8 b.Src.a3, vU8 b.Src.a4, vU8 b.Src.a5]) rfl rfl rfl rfl tyF33 (i := 1) rfl rfl rfl) ?_
  rintro _ rfl
  refine Qi rfl rfl (cgb hg1) (Qg rfl rfl rfl rfl rfl (eqT33_eql ap0.Src b.Src)) ?_
  rintro _ rfl
  refine Qa rfl (Qw rfl rfl rfl (cgb hg1) rfl) ?_
  refine sMv rfl rfl rfl ?_
  rcases bC (ap0.Src == b.Src) with hg2 | hg2
  ·replace h := br_t hg2 h
   refine Qi rfl rfl (cgb hg2) (Qo rfl rfl rfl rfl YE) ?_
   rintro _ rfl
   refine Qi rfl rfl (cgb hg2) (Qp rfl rfl rfl rfl tyF3 (i := 0) rfl rfl) ?_
   rintro _ rfl
   refine Qi rfl rfl (cgb hg2) (Qo rfl rfl rfl rfl YE) ?_
   rintro _ rfl
   refine Qi rfl rfl (cgb hg2) (Qp rfl rfl rfl rfl tyF3 (i := 1) rfl rfl) ?_
   rintro _ rfl
   refine Qi rfl rfl (cgb hg2) (Qg rfl rfl rfl rfl rfl (Xh (a := ap0.Vlan) (b := b.Vlan))) ?_
   rintro _ rfl
   refine Qa rfl (Qw rfl rfl rfl (cgb hg2) rfl) ?_
   refine sMv rfl rfl rfl ?_
   rcases bC (ap0.Vlan == b.Vlan) with hg3 | hg3
   ·replace h := br_t hg3 h
    refine Qi rfl rfl (cgb hg3) (Qo rfl rfl rfl rfl fldF37x3) ?_
    rintro _ rfl
    refine Qi rfl rfl (cgb hg3) (Qp rfl rfl rfl rfl tyF34 (i := 0) rfl rfl) ?_
    rintro _ rfl
    refine Qi rfl rfl (cgb hg3) (Qo rfl rfl rfl rfl fldF37x3) ?_
    rintro _ rfl
    refine Qi rfl rfl (cgb hg3) (Qp rfl rfl rfl rfl tyF34 (i := 1) rfl rfl) ?_
    rintro _ rfl
    refine Qi rfl rfl (cgb hg3) (Qg rfl rfl rfl rfl rfl (bin_eql_u16 (a := ap0.Type_) (b := b.Type_))) ?_
    rintro _ rfl
    refine Qa rfl (Qw rfl rfl rfl (cgb hg3) rfl) ?_
    refine sMv rfl rfl rfl ?_
    rcases bC (ap0.Type_ == b.Type_) with hg4 | hg4
    ·replace h := br_t hg4 h
     refine Qi rfl rfl (cgb hg4) (Qo rfl rfl rfl rfl fldF37x4) ?_
     rintro _ rfl
     refine Qi rfl rfl (cgb hg4) (Qp rfl rfl rfl rfl tyF35 (i := 0) rfl rfl) ?_
     rintro _ rfl
     refine Qi rfl rfl (cgb hg4) (OpT_strS rfl rfl rfl rfl Try.underlying35 Try.underlying5 Try.underlying9 (i := 0) rfl) ?_
     rintro _ rfl
     refine Qi rfl rfl (cgb hg4) (Qo rfl rfl rfl rfl fldF37x4) ?_
     rintro _ rfl
     refine Qi rfl rfl (cgb hg4) (Qp rfl rfl rfl rfl tyF35 (i := 1) rfl rfl) ?_
     rintro _ rfl
     refine Qi rfl rfl (cgb hg4) (OpT_strS rfl rfl rfl rfl Try.underlying35 Try.underlying5 Try.underlying9 (i := 1) rfl) ?_
     rintro _ rfl
     refine Qi rfl rfl (cgb hg4) (Qg rfl rfl rfl rfl rfl (bin_eql_s (a := ap0.Data) (b := b.Data))) ?_
     rintro _ rfl
     refine Qa rfl (Qw rfl rfl rfl (cgb hg4) rfl) ?_
     refine sAs rfl rfl rfl ?_
     refine nW [(4, some (vB (ap0.Data == b.Data)))] [] [] [4] [] [] rfl ?_
     obtain rfl := Option.some.inj h
     exact Qn rfl rfl (resA (vs := [vB (ap0.Data == b.Data)]) rfl ⟨rfl, trivial⟩) [] [] rfl rfl rfl ⟨rfl, rfl, rfl⟩
    ·replace h := br_f hg4 h
     refine Qh rfl rfl (cgb hg4) rfl rfl ?_
     refine Qh rfl rfl (cgb hg4) rfl rfl ?_
     refine Qh rfl rfl (cgb hg4) rfl rfl ?_
     refine Qh rfl rfl (cgb hg4) rfl rfl ?_
     refine Qh rfl rfl (cgb hg4) rfl rfl ?_
     refine Qh rfl rfl (cgb hg4) rfl rfl ?_
     refine Qh rfl rfl (cgb hg4) rfl rfl ?_
     refine Qa rfl (Qu rfl rfl rfl (cgb hg4) rfl) ?_
     refine sAs rfl rfl rfl ?_
     refine nW [(4, some (vB false))] [] [] [4] [] [] rfl ?_
     obtain rfl := Option.some.inj h
     exact Qn rfl rfl (resA (vs := [vB false]) rfl ⟨rfl, trivial⟩) [] [] rfl rfl rfl ⟨rfl, rfl, rfl⟩
   ·replace h := br_f hg3 h
    refine Qh rfl rfl (cgb hg3) rfl rfl ?_
    refine Qh rfl rfl (cgb hg3) rfl rfl ?_
    refine Qh rfl rfl (cgb hg3) rfl rfl ?_
    refine Qh rfl rfl (cgb hg3) rfl rfl ?_
    refine Qh rfl rfl (cgb hg3) rfl rfl ?_
    refine Qa rfl (Qu rfl rfl rfl (cgb hg3) rfl) ?_
    refine sMv rfl rfl rfl ?_
    refine Qh rfl rfl rfl rfl rfl ?_
    refine Qh rfl rfl rfl rfl rfl ?_
    refine Qh rfl rfl rfl rfl rfl ?_
    refine Qh rfl rfl rfl rfl rfl ?_
    refine Qh rfl rfl rfl rfl rfl ?_
    refine Qh rfl rfl rfl rfl rfl ?_
    refine Qh rfl rfl rfl rfl rfl ?_
    refine Qa rfl (Qu rfl rfl rfl rfl rfl) ?_
    refine sAs rfl rfl rfl ?_
    refine nW [(4, some (vB false))] [] [] [4] [] [] rfl ?_
    obtain rfl := Option.some.inj h
    exact Qn rfl rfl (resA (vs := [vB false]) rfl ⟨rfl, trivial⟩) [] [] rfl rfl rfl ⟨rfl, rfl, rfl⟩
  ·replace h := br_f hg2 h
   refine Qh rfl rfl (cgb hg2) rfl rfl ?_
   refine Qh rfl rfl (cgb hg2) rfl rfl ?_
   refine Qh rfl rfl (cgb hg2) rfl rfl ?_
   refine Qh rfl rfl (cgb hg2) rfl rfl ?_
   refine Qh rfl rfl (cgb hg2) rfl rfl ?_
   refine Qa rfl (Qu rfl rfl rfl (cgb hg2) rfl) ?_
   refine sMv rfl rfl rfl ?_
   refine Qh rfl rfl rfl rfl rfl ?_
   refine Qh rfl rfl rfl rfl rfl ?_
   refine Qh rfl rfl rfl rfl rfl ?_
   refine Qh rfl rfl rfl rfl rfl ?_
   refine Qh rfl rfl rfl rfl rfl ?_
   refine Qa rfl (Qu rfl rfl rfl rfl rfl) ?_
   refine sMv rfl rfl rfl ?_
   refine Qh rfl rfl rfl rfl rfl ?_
   refine Qh rfl rfl rfl rfl rfl ?_
   refine Qh rfl rfl rfl rfl rfl ?_
   refine Qh rfl rfl rfl rfl rfl ?_
   refine Qh rfl rfl rfl rfl rfl ?_
   refine Qh rfl rfl rfl rfl rfl ?_
   refine Qh rfl rfl rfl rfl rfl ?_
   refine Qa rfl (Qu rfl rfl rfl rfl rfl) ?_
   refine sAs rfl rfl rfl ?_
   refine nW [(4, some (vB false))] [] [] [4] [] [] rfl ?_
   obtain rfl := Option.some.inj h
   exact Qn rfl rfl (resA (vs := [vB false]) rfl ⟨rfl, trivial⟩) [] [] rfl rfl rfl ⟨rfl, rfl, rfl⟩
 ·replace h := br_f hg1 h
  refine Qh rfl rfl (cgb hg1) rfl rfl ?_
  refine Qh rfl rfl (cgb hg1) rfl rfl ?_
  refine Qh rfl rfl (cgb hg1) rfl rfl ?_
  refine Qh rfl rfl (cgb hg1) rfl rfl ?_
  refine Qh rfl rfl (cgb hg1) rfl rfl ?_
  refine Qa rfl (Qu rfl rfl rfl (cgb hg1) rfl) ?_
  refine sMv rfl rfl rfl ?_
  refine Qh rfl rfl rfl rfl rfl ?_
  refine Qh rfl rfl rfl rfl rfl ?_
  refine Qh rfl rfl rfl rfl rfl ?_
  refine Qh rfl rfl rfl rfl rfl ?_
  refine Qh rfl rfl rfl rfl rfl ?_
  refine Qa rfl (Qu rfl rfl rfl rfl rfl) ?_
  refine sMv rfl rfl rfl ?_
  refine Qh rfl rfl rfl rfl rfl ?_
  refine Qh rfl rfl rfl rfl rfl ?_
  refine Qh rfl rfl rfl rfl rfl ?_
  refine Qh rfl rfl rfl rfl rfl ?_
  refine Qh rfl rfl rfl rfl rfl ?_
  refine Qa rfl (Qu rfl rfl rfl rfl rfl) ?_
  refine sMv rfl rfl rfl ?_
  refine Qh rfl rfl rfl rfl rfl ?_
  refine Qh rfl rfl rfl rfl rfl ?_
  refine Qh rfl rfl rfl rfl rfl ?_
  refine Qh rfl rfl rfl rfl rfl ?_
  refine Qh rfl rfl rfl rfl rfl ?_
  refine Qh rfl rfl rfl rfl rfl ?_
  refine Qh rfl rfl rfl rfl rfl ?_
  refine Qa rfl (Qu rfl rfl rfl rfl rfl) ?_
  refine sAs rfl rfl rfl ?_
  refine nW [(4, some (vB false))] [] [] [4] [] [] rfl ?_
  obtain rfl := Option.some.inj h
  exact Qn rfl rfl (resA (vs := [vB false]) rfl ⟨rfl, trivial⟩) [] [] rfl rfl rfl ⟨rfl, rfl, rfl⟩

set_option maxRecDepth 100000 in
set_option maxHeartbeats 4000000 in
theorem w_kit_SameSegs {ap0 : List Seg} {b : List Seg} {vap01 : Value} {vb1 : Value} {r : Bool} (h : kit_SameSegs ap0 b = some r) :
  Ctr Try.prog 31 #[vap01, vb1] [] [Fact.sl SegS vap01 ap0, Fact.sl SegS vb1 b]
   (fun rv own shr => rv = vB r ∧ own = [] ∧ shr = []) := by
 unfold kit_SameSegs at h
 refine Ctr.mk (args := [vap01, vb1]) Try.func31 rfl rfl (fun R0 w0 B => ?_)
 refine Qe (Qb (sAs rfl rfl rfl ?_))
 refine nW [(0, some vap01), (1, some vb1)] [] [Fact.sl SegS vap01 ap0, Fact.sl SegS vb1 b] [0, 1] [] [0, 1] rfl ?_
 refine Qe (Qe (Qb (sMv rfl rfl rfl ?_)))
 refine Qa rfl (QB rfl rfl rfl rfl Try.underlying25 (i := 0) rfl) ?_
 refine sMv rfl rfl rfl ?_
 refine Qa rfl (QB rfl rfl rfl rfl Try.underlying25 (i := 1) rfl) ?_
 refine Qa rfl (Qg rfl rfl rfl rfl rfl (QU (a := len ap0) (b := len b))) ?_
 refine nW [(0, some vap01), (1, some vb1), (10, some (vB ((len ap0) != (len b))))] [] [Fact.sl SegS vap01 ap0, Fact.sl SegS vb1 b] [0, 1, 10] [] [0, 1] rfl ?_
 rcases bC ((len ap0) != (len b)) with hg1 | hg1
 ·replace h := br_t hg1 h
  refine Ql (cgb hg1) ?_
  refine Qe (Qb (sAs rfl rfl rfl ?_))
  refine nW [(4, some (vB false))] [] [] [4] [] [] rfl ?_
  obtain rfl := Option.some.inj h
  exact Qn rfl rfl (resA (vs := [vB false]) rfl ⟨rfl, trivial⟩) [] [] rfl rfl rfl ⟨rfl, rfl, rfl⟩
 ·replace h := br_f hg1 h
  refine Qm (cgb hg1) ?_
  refine Qr (Qe (Qe (Qb (sAs rfl rfl rfl ?_))))
  refine nW [(0, some vap01), (1, some vb1), (5, some (vI (0 : Int)))] [] [Fact.sl SegS vap01 ap0, Fact.sl SegS vb1 b] [0, 1, 5] [] [0, 1] rfl ?_
  refine Qz (Zc (σ := Int) [0, 1, 5] [] [0, 1] (fun s => ⟨[(0, some vap01), (1, some vb1), (5, some (vI s))], [], [Fact.sl SegS vap01 ap0, Fact.sl SegS vb1 b]⟩) (fun nf1 s => kit_SameSegsL1 ap0 b nf1 s = some r) fuel (0 : Int) h rfl rfl rfl rfl rfl (fun s h => by cases h) ?_)
  rintro nf1 i1 h
  replace h : kit_SameSegsL1B ap0 b (kit_SameSegsL1 ap0 b nf1) i1 = some r := h
  unfold kit_SameSegsL1B at h
  refine Qe (Qe (Qb (sMv rfl rfl rfl ?_)))
  refine sMv rfl rfl rfl ?_
  refine Qa rfl (QB rfl rfl rfl rfl Try.underlying25 (i := 0) rfl) ?_
  refine Qa rfl (Qg rfl rfl rfl rfl rfl (QK (a := i1) (b := len ap0))) ?_
  refine nW [(0, some vap01), (1, some vb1), (5, some (vI i1)), (14, some (vB (decide (i1 < (len ap0)))))] [] [Fact.sl SegS vap01 ap0, Fact.sl SegS vb1 b] [0, 1, 5, 14] [] [0, 1] rfl ?_
  rcases bC (decide (i1 < (len ap0))) with hg2 | hg2
  ·replace h := br_t hg2 h
   refine Ql (cgb hg2) ?_
   refine Qr (Qe (Qz (Qe (Zw (by kernel_rfl) ?_))))
   refine TA_tb [0, 0, 3, 7, 0, 0, 48, 112, 255] (by kernel_rfl) fun htb => ?_
   refine Xy (fr' := [(0, some vap01), (1, some vb1), (5, some (vI i1))]) (own' := []) (shr' := [Fact.sl SegS vap01 ap0, Fact.sl SegS vb1 b]) [0, 1, 5] [] [0, 1] rfl rfl rfl rfl ?_
   obtain ⟨s1, hx1, h⟩ := ob_e h
   obtain ⟨s2, hx2, h⟩ := ob_e h
   refine Zs (lo := 0) (hi := 8) htb rfl rfl (by kernel_rfl) (fun c L a w => ∃ (p1 : Value), ∃ (p2 : Value), Sat c ⟨[(0, some vap01), (1, some vb1), (5, some (vI i1)), (17, bif L 0 then some (vap01) else none), (18, bif L 1 then some (vI i1) else none), (19, bif L 2 then some (p1) else none), (20, bif L 3 then some (.agg #[vU64 s1.At, vU32 s1.Len, vB s1.Write]) else none), (21, bif L 4 then some (vb1) else none), (22, bif L 5 then some (vI i1) else none), (23, bif L 6 then some (p2) else none), (24, bif L 7 then some (.agg #[vU64 s2.At, vU32 s2.Len, vB s2.Write]) else none)], [], [Fact.sl SegS vap01 ap0, Fact.sl SegS vb1 b, (bif L 2 then Fact.pt SegS p1 s1 else Fact.tt), (bif L 6 then Fact.pt SegS p2 s2 else Fact.tt)]⟩ a w) [([], [2, 3]), ([], [2, 3]), ([0, 1], [3]), ([0, 1, 2], []), ([], [6, 7]), ([], [6, 7]), ([4, 5], [7]), ([4, 5, 6], [])] rfl (by kernel_rfl) ?_ (Qc ?_ (Qc ?_ (Qc ?_ (Qc ?_ (Qc ?_ (Qc ?_ (Qc ?_ (Qc ?_ (QH))))))))) ?_
   ·intro a w hs
    exact ⟨undef, undef, hs.startF [17, 18, 19, 20, 21, 22, 23, 24] [] [0, 1, 2, 3] rfl rfl rfl rfl⟩
   ·intro L a w hv K Q hK
    obtain ⟨p1, p2, hs⟩ := hv
    exact wGo rfl rfl hs (Qk rfl rfl rfl rfl) fun a w hs => hK a w ⟨p1, p2, pF hs 3 [] [0, 1, 2, 3] rfl⟩
   ·intro L a w hv K Q hK
    obtain ⟨p1, p2, hs⟩ := hv
    exact wGo rfl rfl hs (Qk rfl rfl rfl rfl) fun a w hs => hK a w ⟨p1, p2, pF hs 4 [] [0, 1, 2, 3] rfl⟩
   ·intro L a w hv K Q hK
    obtain ⟨p1, p2, hs⟩ := hv
    refine QG rfl rfl hs (QA rfl rfl rfl rfl rfl XS (i := 0) rfl hx1) ?_
    rintro _ ⟨p1', rfl⟩ a' w' hs'
    exact hK a' w' ⟨p1', p2, hs'.putF (i := 5) rfl [] [0, 1, 4, 3] rfl rfl rfl rfl⟩
   ·intro L a w hv K Q hK
    obtain ⟨p1, p2, hs⟩ := hv
    exact wGo rfl rfl hs (XR (vs := [vU64 s1.At, vU32 s1.Len, vB s1.Write]) rfl rfl rfl rfl tyF29 (i := 2) rfl rfl) fun a w hs => hK a w ⟨p1, p2, pF hs 6 [] [0, 1, 2, 3] rfl⟩
   ·intro L a w hv K Q hK
    obtain ⟨p1, p2, hs⟩ := hv
    exact wGo rfl rfl hs (Qk rfl rfl rfl rfl) fun a w hs => hK a w ⟨p1, p2, pF hs 7 [] [0, 1, 2, 3] rfl⟩
   ·intro L a w hv K Q hK
    obtain ⟨p1, p2, hs⟩ := hv
    exact wGo rfl rfl hs (Qk rfl rfl rfl rfl) fun a w hs => hK a w ⟨p1, p2, pF hs 8 [] [0, 1, 2, 3] rfl⟩
   ·intro L a w hv K Q hK
    obtain ⟨p1, p2, hs⟩ := hv
    refine QG rfl rfl hs (QA rfl rfl rfl rfl rfl XS (i := 1) rfl hx2) ?_
    rintro _ ⟨p2', rfl⟩ a' w' hs'
    exact hK a' w' ⟨p1, p2', hs'.putF (i := 9) rfl [] [0, 1, 2, 4] rfl rfl rfl rfl⟩
   ·intro L a w hv K Q hK
    obtain ⟨p1, p2, hs⟩ := hv
    exact wGo rfl rfl hs (XR (vs := [vU64 s2.At, vU32 s2.Len, vB s2.Write]) rfl rfl rfl rfl tyF29 (i := 3) rfl rfl) fun a w hs => hK a w ⟨p1, p2, pF hs 10 [] [0, 1, 2, 3] rfl⟩
   ·intro L a w hL hv
    rw [QZ hL] at hv
    obtain ⟨p1, p2, hs⟩ := hv
    refine (show TA _ _ _ 8 ⟨[(0, some vap01), (1, some vb1), (5, some (vI i1)), (20, some (.agg #[vU64 s1.At, vU32 s1.Len, vB s1.Write])), (24, some (.agg #[vU64 s2.At, vU32 s2.Len, vB s2.Write]))], [], [Fact.sl SegS vap01 ap0, Fact.sl SegS vb1 b]⟩ from ?_) a w (hs.wkS [0, 1, 5, 20, 24] [] [0, 1] rfl rfl rfl rfl)
    clear hs hL
    refine QL htb (by kernel_rfl) rfl rfl (Qg rfl rfl rfl rfl rfl (eqT29_neq s1 s2)) ?_
    refine ZW rfl ?_
    refine tW [(0, some vap01), (1, some vb1), (5, some (vI i1)), (25, some (vB (s1 != s2)))] [] [Fact.sl SegS vap01 ap0, Fact.sl SegS vb1 b] [0, 1, 5, 25] [] [0, 1] rfl ?_
    rcases bC (s1 != s2) with hg3 | hg3
    ·replace h := br_t hg3 h
     refine Ql (cgb hg3) ?_
     refine Qe (Qb (sAs rfl rfl rfl ?_))
     refine nW [(4, some (vB false))] [] [] [4] [] [] rfl ?_
     obtain rfl := Option.some.inj h
     exact Qn rfl rfl (resA (vs := [vB false]) rfl ⟨rfl, trivial⟩) [] [] rfl rfl rfl ⟨rfl, rfl, rfl⟩
    ·replace h := br_f hg3 h
     refine Qm (cgb hg3) ?_
     refine Qr (Zk (Qb (sMv rfl rfl rfl ?_)))
     refine Qa rfl (Qg rfl rfl rfl rfl rfl (Qx (a := i1) (b := (1 : Int)))) ?_
     refine sAs rfl rfl rfl ?_
     refine nW [(0, some vap01), (1, some vb1), (5, some (vI (wi (i1 + (1 : Int)))))] [] [Fact.sl SegS vap01 ap0, Fact.sl SegS vb1 b] [0, 1, 5] [] [0, 1] rfl ?_
     exact QN (wi (i1 + (1 : Int))) h [0, 1, 5] [] [0, 1] rfl rfl rfl rfl rfl
  ·replace h := br_f hg2 h
   refine Qm (cgb hg2) ?_
   refine Zf _ rfl ?_
   refine Qe (Qb (sAs rfl rfl rfl ?_))
   refine nW [(4, some (vB true))] [] [] [4] [] [] rfl ?_
   obtain rfl := Option.some.inj h
   exact Qn rfl rfl (resA (vs := [vB true]) rfl ⟨rfl, trivial⟩) [] [] rfl rfl rfl ⟨rfl, rfl, rfl⟩
end Go.Proofs.Ytgcbcnpbnonnjaa
