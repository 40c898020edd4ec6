/- The functions do what the plain words say: each is walked once. No statement of the seat is proved here; no condition. -/
import Derived.Test.YtkmjpgfbcklopaaWa3
namespace Go.Proofs.Ytkmjpgfbcklopaa
attribute [local irreducible] sub
set_option maxRecDepth 100000 in
set_option maxHeartbeats 4000000 in
theorem w_ref_Do21 {m : dumbwaiterref02_Mem} {sp1 : dumbwaiterref20_Store} {feats : UInt64} {name : List UInt8} {l : List Seg} {b_m : Nat} {vm1 : Value} {vm2 : Value} {vsm1 : List Value} {b_sp1 : Nat} {vsp11 : Value} {vsp12 : Value} {vsp13 : Value} {vl1 : Value} {r : (UInt32 × Int × (List (List UInt8)) × dumbwaiterref20_Store)} (h : ref_Do21 m sp1 feats name l = some r) :
  Ctr Try.prog 37 #[.pointer (some ⟨b_m, 0, none⟩), .pointer (some ⟨b_sp1, 0, none⟩), vU64 feats, vS name, vl1] [(cellsR b_m 97 [vm1, vm2]), (rowsX u8S false vm2 vsm1 m.B none), (cellsR b_sp1 105 [vsp11, vsp12, vsp13]), (rowS u8S vsp11 sp1.old), (rowS u8S vsp12 sp1.now), (rowS bS vsp13 sp1.fresh)] [Fact.sl RegionS vm1 m.L, Fact.sl SegS vl1 l]
   (fun rv own shr => ∃ (w1 : Value), ∃ (w2 : Value), ∃ (w3 : Value), rv = .tuple #[vU32 r.1, vI r.2.1] ∧ own = [(cellsR b_m 97 [vm1, vm2]), (rowsX u8S false vm2 vsm1 r.2.2.1 none), (cellsR b_sp1 105 [w1, w2, w3]), (rowS u8S w1 r.2.2.2.old), (rowS u8S w2 r.2.2.2.now), (rowS bS w3 r.2.2.2.fresh)] ∧ shr = []) := by
 unfold ref_Do21 at h
 refine Ctr.mk (args := [.pointer (some ⟨b_m, 0, none⟩), .pointer (some ⟨b_sp1, 0, none⟩), vU64 feats, vS name, vl1]) Try.func37 rfl rfl (fun R0 w0 B => ?_)
 refine Tk_seq (Tk_region (Tops_step rfl (OpT_assign rfl rfl rfl rfl) ?_))
 refine Tops_step rfl (OpT_assign rfl rfl rfl rfl) ?_
 refine Tops_nil (tZ [0, 1, 2, 3, 4] [0, 1, 2, 3, 4, 5] [0, 1] rfl rfl rfl rfl ?_)
 refine Tk_seq (Tk_seq (Tk_region (Tops_step rfl (OpT_move rfl rfl rfl rfl) ?_)))
 refine Tops_step rfl (OpT_ptrNil rfl rfl rfl (.inl rfl) rfl rfl ptrF62) ?_
 refine Tops_step rfl (OpT_move rfl rfl rfl rfl) ?_
 refine Tops_yes rfl rfl rfl (OpT_move rfl rfl rfl rfl) ?_
 rintro _ rfl
 refine Tops_yes rfl rfl rfl (OpT_ptrNil rfl rfl rfl (.inl rfl) rfl rfl ptrF70) ?_
 rintro _ rfl
 refine Tops_step rfl (OpT_pickF rfl rfl rfl rfl rfl) ?_
 refine Tops_nil (tZ [0, 1, 2, 3, 4, 27] [0, 1, 2, 3, 4, 5] [0, 1] rfl rfl rfl rfl ?_)
 refine Tk_condF rfl ?_
 refine Tk_skip (Tk_seq (Tk_region (Tops_step rfl (OpT_move rfl rfl rfl rfl) ?_)))
 refine Tops_step rfl (OpT_move rfl rfl rfl rfl) ?_
 obtain ⟨in1, hx1, h⟩ := ob_e h
 refine Tops_exP rfl (OpT_callP [6, 7, 2, 3, 4, 5] (w_ref_In05 hx1) [0, 1] [0, 1] rfl rfl rfl rfl rfl callee60 rfl rfl rfl rfl rfl) ?_
 rintro _ ⟨_, _, _, ⟨rfl, rfl, rfl⟩, rfl⟩
 refine Tops_step rfl (OpT_assign rfl rfl rfl rfl) ?_
 refine Tops_nil (tZ [0, 1, 2, 3, 4, 12] [0, 1, 2, 3, 4, 5] [0, 1] rfl rfl rfl rfl ?_)
 refine Tk_seq (Tk_seq (Tk_region (Tops_step rfl (OpT_move rfl rfl rfl rfl) ?_)))
 refine Tops_step rfl (OpT_bin rfl rfl rfl rfl rfl (bin_neq_i (a := in1) (b := (0 : Int)))) ?_
 refine Tops_nil (tZ [0, 1, 2, 3, 4, 12, 32] [0, 1, 2, 3, 4, 5] [0, 1] rfl rfl rfl rfl ?_)
 rcases Bool.eq_false_or_eq_true (in1 != (0 : Int)) with hg1 | hg1
 ·replace h := br_t hg1 h
  refine Tk_condT (congrArg (fun b => some (Value.bool b)) hg1) ?_
  refine Tk_seq (Tk_region (Tops_step rfl (OpT_move rfl rfl rfl rfl) ?_))
  refine Tops_step rfl (OpT_assign rfl rfl rfl rfl) ?_
  refine Tops_step rfl (OpT_assign rfl rfl rfl rfl) ?_
  refine Tops_nil (tZ [10, 11] [0, 1, 2, 3, 4, 5] [0] rfl rfl rfl rfl ?_)
  obtain rfl := Option.some.inj h
  exact Tk_retV rfl rfl (resA (vs := [vU32 (0 : UInt32), vI in1]) rfl ⟨rfl, rfl, trivial⟩) [0, 1, 2, 3, 4, 5] [] rfl rfl rfl ⟨vsp11, vsp12, vsp13, rfl, rfl, rfl⟩
 ·replace h := br_f hg1 h
  refine Tk_condF (congrArg (fun b => some (Value.bool b)) hg1) ?_
  refine Tk_skip (Tk_seq (Tk_region (Tops_step rfl (OpT_move rfl rfl rfl rfl) ?_)))
  obtain ⟨total1, hx2, h⟩ := ob_e h
  refine Tops_exP rfl (OpT_call (w_ref_Total05 hx2) [] [1] rfl rfl rfl rfl rfl callee61 rfl rfl rfl rfl) ?_
  rintro _ ⟨_, _, _, ⟨rfl, rfl, rfl⟩, rfl⟩
  refine Tops_step rfl (OpT_move rfl rfl rfl rfl) ?_
  refine Tops_step rfl (OpT_extract rfl rfl rfl rfl rfl) ?_
  refine Tops_step rfl (OpT_extract rfl rfl rfl rfl rfl) ?_
  refine Tops_step rfl (OpT_assign rfl rfl rfl rfl) ?_
  refine Tops_step rfl (OpT_assign rfl rfl rfl rfl) ?_
  refine Tops_nil (tZ [0, 1, 2, 3, 4, 13, 14] [0, 1, 2, 3, 4, 5] [0, 1] rfl rfl rfl rfl ?_)
  refine Tk_seq (Tk_seq (Tk_region (Tops_step rfl (OpT_move rfl rfl rfl rfl) ?_)))
  refine Tops_step rfl (OpT_bin rfl rfl rfl rfl rfl (bin_lss_u64 (a := total1.1) (b := (16 : UInt64)))) ?_
  refine Tops_step rfl (OpT_move rfl rfl rfl rfl) ?_
  rcases Bool.eq_false_or_eq_true (decide (total1.1 < (16 : UInt64))) with hg2 | hg2
  ·replace h := br_t hg2 h
   refine Tops_no rfl rfl (congrArg (fun b => some (Value.bool b)) hg2) rfl rfl ?_
   refine Tops_no rfl rfl (congrArg (fun b => some (Value.bool b)) hg2) rfl rfl ?_
   refine Tops_step rfl (OpT_pickT rfl rfl rfl (congrArg (fun b => some (Value.bool b)) hg2) rfl) ?_
   refine Tops_nil (tZ [0, 1, 2, 3, 4, 14, 44] [0, 1, 2, 3, 4, 5] [0, 1] rfl rfl rfl rfl ?_)
   refine Tk_condT rfl ?_
   refine Tk_seq (Tk_region (Tops_step rfl (OpT_assign rfl rfl rfl rfl) ?_))
   refine Tops_step rfl (OpT_assign rfl rfl rfl rfl) ?_
   refine Tops_nil (tZ [10, 11] [0, 1, 2, 3, 4, 5] [0] rfl rfl rfl rfl ?_)
   obtain rfl := Option.some.inj h
   exact Tk_retV rfl rfl (resA (vs := [vU32 (0 : UInt32), vI (0 : Int)]) rfl ⟨rfl, rfl, trivial⟩) [0, 1, 2, 3, 4, 5] [] rfl rfl rfl ⟨vsp11, vsp12, vsp13, rfl, rfl, rfl⟩
  ·replace h := br_f hg2 h
   refine Tops_yes rfl rfl (congrArg (fun b => some (Value.bool b)) hg2) (OpT_move rfl rfl rfl rfl) ?_
   rintro _ rfl
   refine Tops_yes rfl rfl (congrArg (fun b => some (Value.bool b)) hg2) (OpT_bin rfl rfl rfl rfl rfl (bin_lss_u64 (a := total1.2) (b := (1 : UInt64)))) ?_
   rintro _ rfl
   refine Tops_step rfl (OpT_pickF rfl rfl rfl (congrArg (fun b => some (Value.bool b)) hg2) rfl) ?_
   refine Tops_nil (tZ [0, 1, 2, 3, 4, 14, 44] [0, 1, 2, 3, 4, 5] [0, 1] rfl rfl rfl rfl ?_)
   rcases Bool.eq_false_or_eq_true (decide (total1.2 < (1 : UInt64))) with hg3 | hg3
   ·replace h := br_t hg3 h
    refine Tk_condT (congrArg (fun b => some (Value.bool b)) hg3) ?_
    refine Tk_seq (Tk_region (Tops_step rfl (OpT_assign rfl rfl rfl rfl) ?_))
    refine Tops_step rfl (OpT_assign rfl rfl rfl rfl) ?_
    refine Tops_nil (tZ [10, 11] [0, 1, 2, 3, 4, 5] [0] rfl rfl rfl rfl ?_)
    obtain rfl := Option.some.inj h
    exact Tk_retV rfl rfl (resA (vs := [vU32 (0 : UInt32), vI (0 : Int)]) rfl ⟨rfl, rfl, trivial⟩) [0, 1, 2, 3, 4, 5] [] rfl rfl rfl ⟨vsp11, vsp12, vsp13, rfl, rfl, rfl⟩
   ·replace h := br_f hg3 h
    refine Tk_condF (congrArg (fun b => some (Value.bool b)) hg3) ?_
    refine Tk_skip (Tk_seq (Tk_region (Tops_step rfl (OpT_move rfl rfl rfl rfl) ?_)))
    refine Tops_step rfl (OpT_move rfl rfl rfl rfl) ?_
    obtain ⟨gather1, hx3, h⟩ := ob_e h
    refine Tops_exP rfl (OpT_callP [6, 7, 2, 3, 4, 5, 8] (w_ref_Gather05 hx3) [0, 1] [0, 1] rfl rfl rfl rfl rfl callee64 rfl rfl rfl rfl rfl) ?_
    rintro _ ⟨_, _, _, ⟨v1, rfl, rfl, rfl⟩, rfl⟩
    refine Tops_step rfl (OpT_move rfl rfl rfl rfl) ?_
    refine Tops_step rfl (OpT_extract rfl rfl rfl rfl rfl) ?_
    refine Tops_step rfl (OpT_extract rfl rfl rfl rfl rfl) ?_
    refine Tops_step rfl (OpT_assign rfl rfl rfl rfl) ?_
    refine Tops_step rfl (OpT_assign rfl rfl rfl rfl) ?_
    refine Tops_nil (tZ [0, 1, 2, 3, 4, 14, 15] [0, 1, 2, 3, 4, 5, 6] [0, 1] rfl rfl rfl rfl ?_)
    refine Tk_seq (Tk_region (Tops_step rfl (OpT_move rfl rfl rfl rfl) ?_))
    obtain ⟨read1, hx4, h⟩ := ob_e h
    refine Tops_exP rfl (OpT_callB [6] [0, 1, 2, 3, 4, 5, 6, 7, 8] (w_ref_Read21 hx4) [] rfl rfl rfl rfl rfl callee65 rfl rfl rfl rfl rfl rfl (bor_cons (bor_row 6 rfl rfl) bor_nil) (by rintro _ _ _ ⟨_, _, rfl, rfl, rfl⟩; exact ⟨rfl, (ri_cons (ri_row (S := u8S) rfl _ _) (ri_cons (ri_row (S := RangeS) rfl _ _) ri_nil))⟩)) ?_
    rintro _ ⟨_, _, _, ⟨v2, v3, rfl, rfl, rfl⟩, rfl⟩
    refine Tops_step rfl (OpT_move rfl rfl rfl rfl) ?_
    refine Tops_step rfl (OpT_extract rfl rfl rfl rfl rfl) ?_
    refine Tops_step rfl (OpT_extract rfl rfl rfl rfl rfl) ?_
    refine Tops_ex rfl (OpT_alloc rfl rfl rfl tyZ38) fun b1 => ?_
    refine Tops_step rfl (OpT_storeA2 (fun z0 z1 => [vU32 read1.1.Type_, vU64 read1.1.Sector, z0, vI read1.1.Room, z1]) (cs' := [vU32 read1.1.Type_, vU64 read1.1.Sector, v2, vI read1.1.Room, v3]) rfl rfl rfl rfl tyF38 (i := 9) rfl (is_row (i := 7) rfl) (is_row (i := 8) rfl) (fun _ _ _ _ _ _ => rfl) rfl rfl rfl) ?_
    refine Tops_step rfl (OpT_assign rfl rfl rfl rfl) ?_
    refine Tops_nil (tZ [0, 1, 2, 3, 4, 14, 15, 17] [0, 1, 2, 3, 4, 5, 6, 7, 8, 9] [0, 1] rfl rfl rfl rfl ?_)
    refine Tk_seq (Tk_region (Tops_step rfl (OpT_move rfl rfl rfl rfl) ?_))
    refine Tops_step rfl (OpT_cnv rfl rfl rfl rfl (cnv_u64_i (n := total1.2) Try.underlying29 Try.underlying3)) ?_
    refine Tops_step rfl (OpT_bin rfl rfl rfl rfl rfl (bin_sub_i (a := i64 total1.2) (b := (1 : Int)))) ?_
    refine Tops_step rfl (OpT_fieldC rfl rfl rfl rfl fldF38x3) ?_
    refine Tops_step rfl (OpT_storeC (cs' := [vU32 read1.1.Type_, vU64 read1.1.Sector, v2, vI (wi ((i64 total1.2) - (1 : Int))), v3]) rfl rfl rfl rfl tyF3 (i := 9) rfl rfl rfl (one_of rfl) rfl) ?_
    refine Tops_nil (tZ [0, 1, 2, 3, 4, 14, 15, 17] [0, 1, 2, 3, 4, 5, 6, 7, 8, 9] [0, 1] rfl rfl rfl rfl ?_)
    refine Tk_seq (Tk_drawT (by kernel_rfl) ?_)
    refine TA_tb [0, 0, 0, 0, 0, 16, 63, 127, 255, 255, 511, 2047] (by kernel_rfl) fun htb => ?_
    obtain ⟨hc1, h⟩ := chk_e h
    refine TA_seg (lo := 0) (hi := 6) htb rfl rfl (by kernel_rfl) (fun c L a w => Sat c ⟨[(0, some (.pointer (some ⟨b_m, 0, none⟩))), (1, some (.pointer (some ⟨b_sp1, 0, none⟩))), (2, some (vU64 feats)), (3, some (vS name)), (4, some (vl1)), (14, some (vU64 total1.2)), (15, some (v1)), (17, some (.pointer (some ⟨b1, 0, none⟩))), (61, bif L 0 then some (.pointer (some ⟨b_sp1, 0, none⟩)) else none), (62, bif L 1 then some (vU64 feats) else none), (63, bif L 2 then some (vS name) else none), (64, bif L 3 then some (.agg #[vU32 read1.1.Type_, vU64 read1.1.Sector, v2, vI (wi ((i64 total1.2) - (1 : Int))), v3]) else none), (65, bif L 4 then some (v1) else none), (66, bif L 5 then some (subV v1 1 (Int.toNat (16 : Int)) (Int.toNat (len gather1.1))) else none)], [(some (cellsR b_m 97 [vm1, vm2]) : Option Res), (some (rowsX u8S false vm2 vsm1 m.B none) : Option Res), (some (cellsR b_sp1 105 [vsp11, vsp12, vsp13]) : Option Res), (some (rowS u8S vsp11 sp1.old) : Option Res), (some (rowS u8S vsp12 sp1.now) : Option Res), (some (rowS bS vsp13 sp1.fresh) : Option Res), (some (rowS u8S v1 gather1.1) : Option Res), (some (rowS u8S v2 read1.1.Data) : Option Res), (some (rowS RangeS v3 read1.1.Ranges) : Option Res), (some (cellsR b1 38 [vU32 read1.1.Type_, vU64 read1.1.Sector, v2, vI (wi ((i64 total1.2) - (1 : Int))), v3]) : Option Res)], [Fact.sl RegionS vm1 m.L, Fact.sl SegS vl1 l]⟩ a w) [([], []), ([], []), ([], []), ([], []), ([], [5]), ([4], [])] rfl (by kernel_rfl) ?_ (steps_cons ?_ (steps_cons ?_ (steps_cons ?_ (steps_cons ?_ (steps_cons ?_ (steps_cons ?_ (steps_nil))))))) ?_
    ·intro a w hs
     exact hs.startF [61, 62, 63, 64, 65, 66] [0, 1, 2, 3, 4, 5, 6, 7, 8, 9] [0, 1] rfl rfl rfl rfl
    ·intro L a w hv K Q hK
     have hs := hv
     refine wpOp_go rfl rfl hs (OpT_move rfl rfl rfl rfl) ?_
     rintro _ rfl a' w' hs'
     exact hK a' w' (hs'.putF (i := 8) rfl [0, 1, 2, 3, 4, 5, 6, 7, 8, 9] [0, 1] rfl rfl rfl rfl)
    ·intro L a w hv K Q hK
     have hs := hv
     refine wpOp_go rfl rfl hs (OpT_move rfl rfl rfl rfl) ?_
     rintro _ rfl a' w' hs'
     exact hK a' w' (hs'.putF (i := 9) rfl [0, 1, 2, 3, 4, 5, 6, 7, 8, 9] [0, 1] rfl rfl rfl rfl)
    ·intro L a w hv K Q hK
     have hs := hv
     refine wpOp_go rfl rfl hs (OpT_move rfl rfl rfl rfl) ?_
     rintro _ rfl a' w' hs'
     exact hK a' w' (hs'.putF (i := 10) rfl [0, 1, 2, 3, 4, 5, 6, 7, 8, 9] [0, 1] rfl rfl rfl rfl)
    ·intro L a w hv K Q hK
     have hs := hv
     refine wpOp_go rfl rfl hs (OpT_loadCA (vs := [vU32 read1.1.Type_, vU64 read1.1.Sector, v2, vI (wi ((i64 total1.2) - (1 : Int))), v3]) rfl rfl rfl rfl tyF38 (i := 9) rfl rfl rfl) ?_
     rintro _ rfl a' w' hs'
     exact hK a' w' (hs'.putF (i := 11) rfl [0, 1, 2, 3, 4, 5, 6, 7, 8, 9] [0, 1] rfl rfl rfl rfl)
    ·intro L a w hv K Q hK
     have hs := hv
     refine wpOp_go rfl rfl hs (OpT_move rfl rfl rfl rfl) ?_
     rintro _ rfl a' w' hs'
     exact hK a' w' (hs'.putF (i := 12) rfl [0, 1, 2, 3, 4, 5, 6, 7, 8, 9] [0, 1] rfl rfl rfl rfl)
    ·intro L a w hv K Q hK
     have hs := hv
     refine wpOp_go rfl rfl hs (OpT_subL (S := u8S) (l := (16 : Int)) rfl rfl rfl rfl rfl slF35 (i := 6) rfl hc1) ?_
     rintro _ rfl a' w' hs'
     exact hK a' w' (hs'.putF (i := 13) rfl [0, 1, 2, 3, 4, 5, 6, 7, 8, 9] [0, 1] rfl rfl rfl rfl)
    ·intro L a w hL hv
     rw [allTrue hL] at hv
     have hs := hv
     refine gZ hs [0, 4, 14, 61, 62, 63, 64, 66] [0, 1, 2, 3, 4, 5, 6, 7, 8] [0, 1] rfl rfl rfl rfl ?_
     clear hs hL
     refine TA_retire (i := 7) rfl ?_
     refine TA_retire (i := 8) rfl ?_
     refine TA_retire (i := 6) rfl ?_
     refine TA_vs (vs_subSl (l := (16 : Int)) (m := (len gather1.1)) (i := 4) rfl hc1) ?_
     obtain ⟨apply1, hx5, h⟩ := ob_e h
     refine TA_exP htb (by kernel_rfl) rfl rfl (OpT_callP [0, 1, 9, 10, 11, 12, 6, 7, 8, 13] (w_ref_apply21 hx5) [2, 3, 4, 5] [2, 3, 5] rfl rfl rfl rfl rfl callee66 rfl rfl rfl rfl rfl) ?_
     rintro _ ⟨_, _, _, ⟨v4, v5, v6, v7, rfl, rfl, rfl⟩, rfl⟩
     refine TA_step htb (by kernel_rfl) rfl rfl (OpT_move rfl rfl rfl rfl) ?_
     refine aZ [0, 4, 14, 60] [0, 1, 2, 3, 4, 5, 9] [0, 1] rfl rfl rfl rfl ?_
     refine TA_seg (lo := 8) (hi := 11) htb rfl rfl (by kernel_rfl) (fun c L a w => Sat c ⟨[(0, some (.pointer (some ⟨b_m, 0, none⟩))), (4, some (vl1)), (14, some (vU64 total1.2)), (60, some (.tuple #[v4, vU8 apply1.2.1])), (68, bif L 8 then some (v4) else none), (69, bif L 9 then some (vU8 apply1.2.1) else none), (19, bif L 10 then some (v4) else none)], [(some (cellsR b_m 97 [vm1, vm2]) : Option Res), (some (rowsX u8S false vm2 vsm1 m.B none) : Option Res), (some (cellsR b_sp1 105 [v5, v6, v7]) : Option Res), (some (rowS u8S v5 apply1.2.2.old) : Option Res), (some (rowS u8S v6 apply1.2.2.now) : Option Res), (some (rowS bS v7 apply1.2.2.fresh) : Option Res), (some (rowS u8S v4 apply1.1) : Option Res)], [Fact.sl RegionS vm1 m.L, Fact.sl SegS vl1 l]⟩ a w) [([], [10]), ([], []), ([8], [])] rfl (by kernel_rfl) ?_ (steps_cons ?_ (steps_cons ?_ (steps_cons ?_ (steps_nil)))) ?_
     ·intro a w hs
      exact hs.startF [68, 69, 19] [0, 1, 2, 3, 4, 5, 6] [0, 1] rfl rfl rfl rfl
     ·intro L a w hv K Q hK
      have hs := hv
      refine wpOp_go rfl rfl hs (OpT_extract rfl rfl rfl rfl rfl) ?_
      rintro _ rfl a' w' hs'
      exact hK a' w' (hs'.putF (i := 4) rfl [0, 1, 2, 3, 4, 5, 6] [0, 1] rfl rfl rfl rfl)
     ·intro L a w hv K Q hK
      have hs := hv
      refine wpOp_go rfl rfl hs (OpT_extract rfl rfl rfl rfl rfl) ?_
      rintro _ rfl a' w' hs'
      exact hK a' w' (hs'.putF (i := 5) rfl [0, 1, 2, 3, 4, 5, 6] [0, 1] rfl rfl rfl rfl)
     ·intro L a w hv K Q hK
      have hs := hv
      refine wpOp_go rfl rfl hs (OpT_assign rfl rfl rfl rfl) ?_
      rintro _ rfl a' w' hs'
      exact hK a' w' (hs'.putF (i := 6) rfl [0, 1, 2, 3, 4, 5, 6] [0, 1] rfl rfl rfl rfl)
     ·intro L a w hL hv
      rw [allTrue hL] at hv
      have hs := hv
      refine gZ hs [0, 4, 14, 69, 19] [0, 1, 2, 3, 4, 5, 6] [0, 1] rfl rfl rfl rfl ?_
      clear hs hL
      refine TA_step htb (by kernel_rfl) rfl rfl (OpT_assign rfl rfl rfl rfl) ?_
      refine TA_end rfl ?_
      refine tZ [0, 4, 14, 19, 20] [0, 1, 2, 3, 4, 5, 6] [0, 1] rfl rfl rfl rfl ?_
      refine Tk_seq (Tk_region (Tops_step rfl (OpT_move rfl rfl rfl rfl) ?_))
      obtain ⟨part1, hx6, h⟩ := ob_e h
      refine Tops_exP rfl (OpT_call (w_ref_Part05 hx6) [] [1] rfl rfl rfl rfl rfl callee58 rfl rfl rfl rfl) ?_
      rintro _ ⟨v8, _, _, ⟨_, rfl, rfl, rfl⟩, rfl⟩
      refine Tops_step rfl (OpT_assign rfl rfl rfl rfl) ?_
      refine Tops_nil (tZ [0, 14, 19, 20, 21] [0, 1, 2, 3, 4, 5, 6, 7] [0] rfl rfl rfl rfl ?_)
      refine Tk_seq (Tk_region (Tops_step rfl (OpT_move rfl rfl rfl rfl) ?_))
      refine Tops_step rfl (OpT_move rfl rfl rfl rfl) ?_
      refine Tops_step rfl (OpT_move rfl rfl rfl rfl) ?_
      obtain ⟨scatte1, hx7, h⟩ := ob_e h
      refine Tops_exP rfl (OpT_callB [7, 6] [8, 9, 2, 3, 4, 5, 6, 7] (w_ref_Scatter05 hx7) [0, 1] rfl rfl rfl rfl rfl callee67 rfl rfl rfl rfl rfl rfl (bor_cons (bor_shr 0 rfl) (bor_cons (bor_row 7 rfl rfl) (bor_cons (bor_row 6 rfl rfl) bor_nil))) (by rintro _ _ _ ⟨rfl, rfl, rfl⟩; exact ⟨rfl, (ri_cons (ri_cells _ _ _) (ri_cons (ri_rows rfl _ _ _ _ _) ri_nil))⟩)) ?_
      rintro _ ⟨_, _, _, ⟨rfl, rfl, rfl⟩, rfl⟩
      refine Tops_nil (tZ [0, 14, 19, 20, 21] [0, 1, 2, 3, 4, 5, 6, 7] [0] rfl rfl rfl rfl ?_)
      refine Tk_seq (Tk_region (Tops_step rfl (OpT_move rfl rfl rfl rfl) ?_))
      refine Tops_step rfl (OpT_move rfl rfl rfl rfl) ?_
      refine Tops_step rfl (OpT_move rfl rfl rfl rfl) ?_
      refine Tops_step rfl (OpT_bin rfl rfl rfl rfl rfl (bin_sub_u64 (a := total1.2) (b := (1 : UInt64)))) ?_
      obtain ⟨cut1, hx8, h⟩ := ob_e h
      refine Tops_exP rfl (OpT_callB [7] [0, 1, 2, 3, 4, 5, 6, 7, 8] (w_ref_Cut05 hx8) [] rfl rfl rfl rfl rfl callee68 rfl rfl rfl rfl rfl rfl (bor_cons (bor_row 7 rfl rfl) bor_nil) (by rintro _ _ _ ⟨_, rfl, rfl, rfl⟩; exact ⟨rfl, (ri_cons (ri_row (S := SegS) rfl _ _) ri_nil)⟩)) ?_
      rintro _ ⟨v9, _, _, ⟨_, rfl, rfl, rfl⟩, rfl⟩
      refine Tops_step rfl (OpT_move rfl rfl rfl rfl) ?_
      refine Tops_ex rfl (OpT_buildSlice (S := u8S) (xs := [apply1.2.1]) (css := [[vU8 apply1.2.1]]) (cs := [vU8 apply1.2.1]) (e := 5) rfl rfl rfl rfl (bldF slF35 (by decide) (by kernel_rfl)) rfl rfl rfl rfl (rel_plainD (S := u8S) (xs := [apply1.2.1]) (css := [[vU8 apply1.2.1]]) rfl rfl)) fun v10 => ?_
      obtain ⟨scatte2, hx9, h⟩ := ob_e h
      refine Tops_exP rfl (OpT_callB [8, 9] [10, 11, 2, 3, 4, 5, 6, 7, 8, 9] (w_ref_Scatter05 hx9) [0, 1] rfl rfl rfl rfl rfl callee67 rfl rfl rfl rfl rfl rfl (bor_cons (bor_shr 0 rfl) (bor_cons (bor_row 8 rfl rfl) (bor_cons (bor_row 9 rfl rfl) bor_nil))) (by rintro _ _ _ ⟨rfl, rfl, rfl⟩; exact ⟨rfl, (ri_cons (ri_cells _ _ _) (ri_cons (ri_rows rfl _ _ _ _ _) ri_nil))⟩)) ?_
      rintro _ ⟨_, _, _, ⟨rfl, rfl, rfl⟩, rfl⟩
      refine Tops_nil (tZ [19] [0, 1, 2, 3, 4, 5, 6] [0] rfl rfl rfl rfl ?_)
      refine Tk_seq (Tk_region (Tops_step rfl (OpT_move rfl rfl rfl rfl) ?_))
      refine Tops_step rfl (OpT_lenO rfl rfl rfl rfl Try.underlying35 (i := 6) rfl) ?_
      refine Tops_step rfl (OpT_cnv rfl rfl rfl rfl (cnv_i_u32 (n := len apply1.1) Try.underlying3 Try.underlying30)) ?_
      refine Tops_step rfl (OpT_bin rfl rfl rfl rfl rfl (bin_add_u32 (a := u32 (len apply1.1)) (b := (1 : UInt32)))) ?_
      refine Tops_step rfl (OpT_assign rfl rfl rfl rfl) ?_
      refine Tops_step rfl (OpT_assign rfl rfl rfl rfl) ?_
      refine Tops_nil (tZ [10, 11] [0, 1, 2, 3, 4, 5] [0] rfl rfl rfl rfl ?_)
      obtain rfl := Option.some.inj h
      exact Tk_retV rfl rfl (resA (vs := [vU32 ((u32 (len apply1.1)) + (1 : UInt32)), vI (0 : Int)]) rfl ⟨rfl, rfl, trivial⟩) [0, 1, 2, 3, 4, 5] [] rfl rfl rfl ⟨v5, v6, v7, rfl, rfl, rfl⟩

set_option maxRecDepth 100000 in
set_option maxHeartbeats 4000000 in
theorem w_slices_Clone_bytebyte {sp0 : List UInt8} {vsp01 : Value} {r : (List UInt8)} (h : slices_Clone_bytebyte sp0 = some r) :
  Ctr Try.prog 87 #[vsp01] [] [Fact.sl u8S vsp01 sp0]
   (fun rv own shr => ∃ (w1 : Value), rv = w1 ∧ own = [(rowS u8S w1 r)] ∧ shr = []) := by
 unfold slices_Clone_bytebyte at h
 refine Ctr.mk (args := [vsp01]) Try.func87 rfl rfl (fun R0 w0 B => ?_)
 refine Tk_seq (Tk_region (Tops_step rfl (OpT_assign rfl rfl rfl rfl) ?_))
 refine Tops_nil (tZ [0] [] [0] rfl rfl rfl rfl ?_)
 refine Tk_seq (Tk_seq (Tk_region (Tops_step rfl (OpT_move rfl rfl rfl rfl) ?_)))
 refine Tops_exP rfl (OpT_eqNil rfl rfl rfl (.inl rfl) rfl rfl Try.underlying35 (i := 0) rfl) ?_
 rintro _ ⟨q1, hq1, rfl⟩
 refine Tops_nil (tZ [0, 4] [] [0] rfl rfl rfl rfl ?_)
 rcases Bool.eq_false_or_eq_true q1 with hg1 | hg1
 ·obtain rfl := hq1 hg1
  replace h : some ([] : List UInt8) = some r := h
  refine Tk_condT (congrArg (fun b => some (Value.bool b)) hg1) ?_
  refine Tk_seq (Tk_region (Tops_step rfl (OpT_assign rfl rfl rfl rfl) ?_))
  refine Tops_nil (tZ [2] [] [] rfl rfl rfl rfl ?_)
  refine Tk_nilrow u8S ?_
  obtain rfl := Option.some.inj h
  exact Tk_retV rfl rfl (resA (vs := [.slice none 0 0]) rfl ⟨rfl, trivial⟩) [0] [] rfl rfl rfl ⟨(.slice none 0 0), rfl, rfl, rfl⟩
 ·refine Tk_condF (congrArg (fun b => some (Value.bool b)) hg1) ?_
  refine Tk_skip (Tk_seq (Tk_region (Tops_ex rfl (OpT_buildSlice (S := u8S) (xs := ([] : List UInt8)) (css := []) (cs := []) (e := 5) rfl rfl rfl rfl (bldF slF35 (by decide) (by kernel_rfl)) rfl rfl rfl rfl (rel_plainD (S := u8S) (xs := ([] : List UInt8)) (css := []) rfl rfl)) fun v1 => ?_)))
  refine Tops_step rfl (OpT_move rfl rfl rfl rfl) ?_
  obtain ⟨hc1, h⟩ := chk_e h
  refine Tops_ex rfl (OpT_append rfl rfl rfl rfl rfl slF35 (i := 0) (j := 0) rfl rfl hc1) fun v2 => ?_
  refine Tops_step rfl (OpT_assign rfl rfl rfl rfl) ?_
  refine Tops_nil (tZ [2] [0] [] rfl rfl rfl rfl ?_)
  obtain rfl := Option.some.inj h
  exact Tk_retV rfl rfl (resA (vs := [v2]) rfl ⟨rfl, trivial⟩) [0] [] rfl rfl rfl ⟨v2, rfl, rfl, rfl⟩

set_option maxRecDepth 100000 in
set_option maxHeartbeats 4000000 in
theorem w_gmem_Mem_Read {m : gmem_Mem} {atp1 : UInt64} {np2 : Int} {b_m : Nat} {vm1 : Value} {vm2 : Value} {vsm1 : List Value} {r : ((List UInt8) × Int)} (h : gmem_Mem_Read m atp1 np2 = some r) :
  Ctr Try.prog 77 #[.pointer (some ⟨b_m, 0, none⟩), vU64 atp1, vI np2] [(cellsR b_m 83 [vm1, vm2]), (rowsX u8S true vm2 vsm1 m.b none)] [Fact.sl RegionS vm1 m.l]
   (fun rv own shr => ∃ (w1 : Value), rv = .tuple #[w1, vI r.2] ∧ own = [(cellsR b_m 83 [vm1, vm2]), (rowsX u8S true vm2 vsm1 m.b none), (rowS u8S w1 r.1)] ∧ shr = []) := by
 unfold gmem_Mem_Read at h
 refine Ctr.mk (args := [.pointer (some ⟨b_m, 0, none⟩), vU64 atp1, vI np2]) Try.func77 rfl rfl (fun R0 w0 B => ?_)
 refine Tk_seq (Tk_region (Tops_step rfl (OpT_assign rfl rfl rfl rfl) ?_))
 refine Tops_step rfl (OpT_assign rfl rfl rfl rfl) ?_
 refine Tops_nil (tZ [0, 1, 2] [0, 1] [0] rfl rfl rfl rfl ?_)
 refine Tk_seq (Tk_seq (Tk_region (Tops_step rfl (OpT_move rfl rfl rfl rfl) ?_)))
 obtain ⟨made1, hx1, h⟩ := ob_e h
 refine Tops_exP rfl (OpT_callP [2, 3] (w_gmem_Mem_made hx1) [0, 1] [0] rfl rfl rfl rfl rfl callee45 rfl rfl rfl rfl rfl) ?_
 rintro _ ⟨_, _, _, ⟨rfl, rfl, rfl⟩, rfl⟩
 refine Tops_step rfl (OpT_not rfl rfl rfl rfl) ?_
 refine Tops_nil (tZ [0, 1, 2, 11] [0, 1] [0] rfl rfl rfl rfl ?_)
 refine Tk_condF (congrArg (fun b => some (Value.bool b)) (congrArg (!·) (Option.some.inj (show some true = some made1 from hx1)).symm)) ?_
 refine Tk_skip (Tk_seq (Tk_block (Tk_seq (Tk_region (Tops_step rfl (OpT_move rfl rfl rfl rfl) ?_)))))
 refine Tops_step rfl (OpT_bin rfl rfl rfl rfl rfl (bin_lss_i (a := np2) (b := (0 : Int)))) ?_
 refine Tops_step rfl (OpT_assign rfl rfl rfl rfl) ?_
 refine Tops_nil (tZ [0, 1, 2, 12] [0, 1] [0] rfl rfl rfl rfl ?_)
 rcases Bool.eq_false_or_eq_true (decide (np2 < (0 : Int))) with hg1 | hg1
 ·replace h := br_t hg1 h
  refine Tk_condT (congrArg (fun b => some (Value.bool b)) hg1) ?_
  refine Tk_seq (Tk_region (Tops_step rfl (OpT_assign rfl rfl rfl rfl) ?_))
  refine Tops_step rfl (OpT_assign rfl rfl rfl rfl) ?_
  refine Tops_nil (tZ [6, 7] [0, 1] [0] rfl rfl rfl rfl ?_)
  refine Tk_nilrow u8S ?_
  obtain rfl := Option.some.inj h
  exact Tk_retV rfl rfl (resA (vs := [.slice none 0 0, vI (2 : Int)]) rfl ⟨rfl, rfl, trivial⟩) [0, 1, 2] [] rfl rfl rfl ⟨(.slice none 0 0), rfl, rfl, rfl⟩
 ·replace h := br_f hg1 h
  refine Tk_condF (congrArg (fun b => some (Value.bool b)) hg1) ?_
  refine Tk_seq (Tk_region (Tops_step rfl (OpT_move rfl rfl rfl rfl) ?_))
  refine Tops_step rfl (OpT_bin rfl rfl rfl rfl rfl (bin_eql_i (a := np2) (b := (0 : Int)))) ?_
  refine Tops_step rfl (OpT_assign rfl rfl rfl rfl) ?_
  refine Tops_nil (tZ [0, 1, 2, 15] [0, 1] [0] rfl rfl rfl rfl ?_)
  rcases Bool.eq_false_or_eq_true (np2 == (0 : Int)) with hg2 | hg2
  ·replace h := br_t hg2 h
   refine Tk_condT (congrArg (fun b => some (Value.bool b)) hg2) ?_
   refine Tk_seq (Tk_region (Tops_step rfl (OpT_assign rfl rfl rfl rfl) ?_))
   refine Tops_step rfl (OpT_assign rfl rfl rfl rfl) ?_
   refine Tops_nil (tZ [6, 7] [0, 1] [0] rfl rfl rfl rfl ?_)
   refine Tk_nilrow u8S ?_
   obtain rfl := Option.some.inj h
   exact Tk_retV rfl rfl (resA (vs := [.slice none 0 0, vI (0 : Int)]) rfl ⟨rfl, rfl, trivial⟩) [0, 1, 2] [] rfl rfl rfl ⟨(.slice none 0 0), rfl, rfl, rfl⟩
  ·replace h := br_f hg2 h
   refine Tk_condF (congrArg (fun b => some (Value.bool b)) hg2) ?_
   refine Tk_skip (Tk_blk (Tk_seq (Tk_region (Tops_step rfl (OpT_move rfl rfl rfl rfl) ?_))))
   refine Tops_step rfl (OpT_move rfl rfl rfl rfl) ?_
   refine Tops_step rfl (OpT_move rfl rfl rfl rfl) ?_
   refine Tops_step rfl (OpT_cnv rfl rfl rfl rfl (cnv_i_u64 (n := np2) Try.underlying3 Try.underlying29)) ?_
   obtain ⟨bytes1, hx2, h⟩ := ob_e h
   refine Tops_exP rfl (OpT_callP [2, 3] (w_gmem_Mem_bytes hx2) [0, 1] [0] rfl rfl rfl rfl rfl callee46 rfl rfl rfl rfl rfl) ?_
   rintro _ ⟨_, _, _, ⟨rfl, rfl, rfl⟩, rfl⟩
   refine Tops_step rfl (OpT_assign rfl rfl rfl rfl) ?_
   refine Tops_nil (tZ [8] [0, 1] [0] rfl rfl rfl rfl ?_)
   rcases onO_cases h with ⟨ho1, h⟩ | ⟨w1, ho1, h⟩
   ·refine Tk_eqv (x := winV 1 vsm1 bytes1) (y := .slice none 0 0) (by rw [ho1]; rfl) (fun z => ⟨[(8, some (z))], [some (cellsR b_m 83 [vm1, vm2]), some (rowsX u8S true vm2 vsm1 m.b none)], [Fact.sl RegionS vm1 m.l]⟩) ?_
    refine Tk_seq (Tk_seq (Tk_region (Tops_step rfl (OpT_move rfl rfl rfl rfl) ?_)))
    refine Tops_step rfl (OpT_eqNilN rfl rfl rfl (.inl rfl) rfl rfl Try.underlying35) ?_
    refine Tops_nil (tZ [8, 24] [0, 1] [0] rfl rfl rfl rfl ?_)
    refine Tk_condT rfl ?_
    refine Tk_seq (Tk_region (Tops_step rfl (OpT_assign rfl rfl rfl rfl) ?_))
    refine Tops_step rfl (OpT_assign rfl rfl rfl rfl) ?_
    refine Tops_nil (tZ [6, 7] [0, 1] [0] rfl rfl rfl rfl ?_)
    refine Tk_nilrow u8S ?_
    obtain rfl := Option.some.inj h
    exact Tk_retV rfl rfl (resA (vs := [.slice none 0 0, vI (5 : Int)]) rfl ⟨rfl, rfl, trivial⟩) [0, 1, 2] [] rfl rfl rfl ⟨(.slice none 0 0), rfl, rfl, rfl⟩
   ·refine Tk_eqv (x := winV 1 vsm1 bytes1) (y := subV (vsAt vsm1 (Int.toNat w1.1)) 1 (Int.toNat w1.2.1) (Int.toNat w1.2.2)) (by rw [ho1]; rfl) (fun z => ⟨[(8, some (z))], [some (cellsR b_m 83 [vm1, vm2]), some (rowsX u8S true vm2 vsm1 m.b none)], [Fact.sl RegionS vm1 m.l]⟩) ?_
    obtain ⟨row1, hx3, h⟩ := ob_e h
    refine Tk_vs (vs_focus (i := 1) (j := w1.1) rfl hx3) ?_
    obtain ⟨hc1, h⟩ := chk_e h
    refine Tk_seq (Tk_seq (Tk_region (Tops_step rfl (OpT_move rfl rfl rfl rfl) ?_)))
    obtain ⟨hc2, h⟩ := chk_e h
    refine Tops_step rfl (OpT_eqSub (S := u8S) (l := w1.2.1) (m := w1.2.2) rfl rfl rfl (.inl rfl) rfl rfl Try.underlying35 (i := 2) rfl hc1 hc2) ?_
    refine Tops_nil (tZ [8, 24] [0, 1, 2] [0] rfl rfl rfl rfl ?_)
    refine Tk_condF rfl ?_
    refine Tk_skip (Tk_seq (Tk_region (Tops_step rfl (OpT_move rfl rfl rfl rfl) ?_)))
    obtain ⟨cloneb1, hx4, h⟩ := ob_e h
    refine Tops_exP rfl (OpT_callB [2] [0, 1, 2, 3] (w_slices_Clone_bytebyte hx4) [] rfl rfl rfl rfl rfl callee87 rfl rfl rfl rfl rfl rfl (bor_cons (bor_sub (S := u8S) (l := w1.2.1) (m := w1.2.2) 2 rfl rfl hc1) bor_nil) (by rintro _ _ _ ⟨_, rfl, rfl, rfl⟩; exact ⟨rfl, (ri_cons (ri_row (S := u8S) rfl _ _) ri_nil)⟩)) ?_
    rintro _ ⟨v1, _, _, ⟨_, rfl, rfl, rfl⟩, rfl⟩
    refine Tops_step rfl (OpT_assign rfl rfl rfl rfl) ?_
    refine Tops_step rfl (OpT_assign rfl rfl rfl rfl) ?_
    refine Tops_nil (tZ [6, 7] [0, 1, 2, 3] [0] rfl rfl rfl rfl ?_)
    refine Tk_vs (vs_unfocus0 (i := 1) (q := 2) rfl rfl rfl hx3) ?_
    obtain rfl := Option.some.inj h
    exact Tk_retV rfl rfl (resA (vs := [v1, vI (0 : Int)]) rfl ⟨rfl, rfl, trivial⟩) [0, 1, 3] [] rfl rfl rfl ⟨v1, rfl, rfl, rfl⟩

set_option maxRecDepth 100000 in
set_option maxHeartbeats 4000000 in
theorem w_seg_In {m : gmem_Mem} {l : List Seg} {b_m : Nat} {vm1 : Value} {vm2 : Value} {vsm1 : List Value} {vl1 : Value} {r : Int} (h : seg_In m l = some r) :
  Ctr Try.prog 52 #[.pointer (some ⟨b_m, 0, none⟩), vl1] [(cellsR b_m 83 [vm1, vm2]), (rowsX u8S true vm2 vsm1 m.b none)] [Fact.sl RegionS vm1 m.l, Fact.sl SegS vl1 l]
   (fun rv own shr => rv = vI r ∧ own = [(cellsR b_m 83 [vm1, vm2]), (rowsX u8S true vm2 vsm1 m.b none)] ∧ shr = []) := by
 unfold seg_In at h
 refine Ctr.mk (args := [.pointer (some ⟨b_m, 0, none⟩), vl1]) Try.func52 rfl rfl (fun R0 w0 B => ?_)
 refine Tk_seq (Tk_region (Tops_step rfl (OpT_assign rfl rfl rfl rfl) ?_))
 refine Tops_nil (tZ [0, 1] [0, 1] [0, 1] rfl rfl rfl rfl ?_)
 refine Tk_seq (Tk_seq (Tk_region (Tops_step rfl (OpT_move rfl rfl rfl rfl) ?_)))
 obtain ⟨read1, hx1, h⟩ := ob_e h
 refine Tops_exP rfl (OpT_callP [2, 3, 4] (w_gmem_Mem_Read hx1) [0, 1] [0] rfl rfl rfl rfl rfl callee77 rfl rfl rfl rfl rfl) ?_
 rintro _ ⟨_, _, _, ⟨v1, rfl, rfl, rfl⟩, rfl⟩
 refine Tops_step rfl (OpT_move rfl rfl rfl rfl) ?_
 refine Tops_step rfl (OpT_extract rfl rfl rfl rfl rfl) ?_
 refine Tops_step rfl (OpT_extract rfl rfl rfl rfl rfl) ?_
 refine Tops_step rfl (OpT_assign rfl rfl rfl rfl) ?_
 refine Tops_step rfl (OpT_assign rfl rfl rfl rfl) ?_
 refine Tops_nil (tZ [0, 1, 6] [0, 1] [0, 1] rfl rfl rfl rfl ?_)
 refine Tk_seq (Tk_region (Tops_step rfl (OpT_move rfl rfl rfl rfl) ?_))
 refine Tops_step rfl (OpT_bin rfl rfl rfl rfl rfl (bin_neq_i (a := read1.2) (b := (0 : Int)))) ?_
 refine Tops_nil (tZ [0, 1, 6, 16] [0, 1] [0, 1] rfl rfl rfl rfl ?_)
 rcases Bool.eq_false_or_eq_true (read1.2 != (0 : Int)) with hg1 | hg1
 ·replace h := br_t hg1 h
  refine Tk_condT (congrArg (fun b => some (Value.bool b)) hg1) ?_
  refine Tk_seq (Tk_region (Tops_step rfl (OpT_move rfl rfl rfl rfl) ?_))
  refine Tops_step rfl (OpT_assign rfl rfl rfl rfl) ?_
  refine Tops_nil (tZ [4] [0, 1] [0] rfl rfl rfl rfl ?_)
  obtain rfl := Option.some.inj h
  exact Tk_retV rfl rfl (resA (vs := [vI read1.2]) rfl ⟨rfl, trivial⟩) [0, 1] [] rfl rfl rfl ⟨rfl, rfl, rfl⟩
 ·replace h := br_f hg1 h
  refine Tk_condF (congrArg (fun b => some (Value.bool b)) hg1) ?_
  refine Tk_skip (Tk_seq (Tk_seq (Tk_region (Tops_step rfl (OpT_move rfl rfl rfl rfl) ?_))))
  obtain ⟨check1, hx2, h⟩ := ob_e h
  refine Tops_exP rfl (OpT_call (w_seg_Check hx2) [] [1] rfl rfl rfl rfl rfl callee39 rfl rfl rfl rfl) ?_
  rintro _ ⟨_, _, _, ⟨rfl, rfl, rfl⟩, rfl⟩
  refine Tops_step rfl (OpT_assign rfl rfl rfl rfl) ?_
  refine Tops_nil (tZ [0, 1, 7] [0, 1] [0, 1] rfl rfl rfl rfl ?_)
  refine Tk_seq (Tk_region (Tops_step rfl (OpT_move rfl rfl rfl rfl) ?_))
  refine Tops_step rfl (OpT_bin rfl rfl rfl rfl rfl (bin_neq_i (a := check1) (b := (0 : Int)))) ?_
  refine Tops_nil (tZ [0, 1, 7, 21] [0, 1] [0, 1] rfl rfl rfl rfl ?_)
  rcases Bool.eq_false_or_eq_true (check1 != (0 : Int)) with hg2 | hg2
  ·replace h := br_t hg2 h
   refine Tk_condT (congrArg (fun b => some (Value.bool b)) hg2) ?_
   refine Tk_seq (Tk_region (Tops_step rfl (OpT_move rfl rfl rfl rfl) ?_))
   refine Tops_step rfl (OpT_assign rfl rfl rfl rfl) ?_
   refine Tops_nil (tZ [4] [0, 1] [0] rfl rfl rfl rfl ?_)
   obtain rfl := Option.some.inj h
   exact Tk_retV rfl rfl (resA (vs := [vI check1]) rfl ⟨rfl, trivial⟩) [0, 1] [] rfl rfl rfl ⟨rfl, rfl, rfl⟩
  ·replace h := br_f hg2 h
   refine Tk_condF (congrArg (fun b => some (Value.bool b)) hg2) ?_
   refine Tk_skip (Tk_seq (Tk_seq (Tk_region (Tops_step rfl (OpT_move rfl rfl rfl rfl) ?_))))
   refine Tops_step rfl (OpT_lenS rfl rfl rfl rfl Try.underlying22 (i := 1) rfl) ?_
   refine Tops_step rfl (OpT_move rfl rfl rfl rfl) ?_
   refine Tops_nil (tZ [0, 23, 24, 25] [0, 1] [0, 1] rfl rfl rfl rfl ?_)
   refine Tk_block (Tk_loopS (σ := Int) [0, 23, 24, 25] [0, 1] [0, 1] (fun s => ⟨[(0, some (.pointer (some ⟨b_m, 0, none⟩))), (23, some (vl1)), (24, some (vI (len l))), (25, some (vI s))], [some (cellsR b_m 83 [vm1, vm2]), some (rowsX u8S true vm2 vsm1 m.b none)], [Fact.sl RegionS vm1 m.l, Fact.sl SegS vl1 l]⟩) (fun nf1 s => seg_InL1 m l nf1 s = some r) fuel (0 : Int) h rfl rfl rfl rfl rfl (fun s h => by cases h) ?_)
   rintro nf1 x1 h
   replace h : seg_InL1B m l (seg_InL1 m l nf1) x1 = some r := h
   unfold seg_InL1B at h
   refine Tk_seq (Tk_region (Tops_step rfl (OpT_bin rfl rfl rfl rfl rfl (bin_lss_i (a := x1) (b := len l))) ?_))
   refine Tops_nil (Tk_seq ?_)
   rcases Bool.eq_false_or_eq_true (decide (x1 < (len l))) with hg3 | hg3
   ·replace h := br_t hg3 h
    refine Tk_condT (congrArg (fun b => some (Value.bool b)) hg3) ?_
    refine Tk_skip (Tk_seq (Tk_block (Tk_seq (Tk_region ?_))))
    obtain ⟨s1, hx3, h⟩ := ob_e h
    refine Tops_ex rfl (OpT_idxS rfl rfl rfl rfl rfl slF22 (i := 1) rfl hx3) fun p1 => ?_
    refine Tops_step rfl (OpT_loadPA (vs := [vU64 s1.At, vU32 s1.Len, vB s1.Write]) rfl rfl rfl rfl tyF32 (i := 2) rfl rfl) ?_
    refine Tops_ex rfl (OpT_alloc rfl rfl rfl tyZ32) fun b1 => ?_
    refine Tops_step rfl (OpT_storeC (cs' := [vU64 s1.At, vU32 s1.Len, vB s1.Write]) rfl rfl rfl rfl tyF32 (i := 2) rfl rfl rfl (one_of rfl) rfl) ?_
    refine Tops_nil (tZ [0, 23, 24, 25, 9] [0, 1, 2] [0, 1] rfl rfl rfl rfl ?_)
    refine Tk_seq (Tk_region (Tops_step rfl (OpT_move rfl rfl rfl rfl) ?_))
    refine Tops_step rfl (OpT_fieldC rfl rfl rfl rfl fldF32x0) ?_
    refine Tops_step rfl (OpT_loadC rfl rfl rfl rfl tyF29 (i := 2) rfl rfl) ?_
    refine Tops_step rfl (OpT_fieldC rfl rfl rfl rfl fldF32x1) ?_
    refine Tops_step rfl (OpT_loadC rfl rfl rfl rfl tyF30 (i := 2) rfl rfl) ?_
    refine Tops_step rfl (OpT_cnv rfl rfl rfl rfl (cnv_u32_u64 (n := s1.Len) Try.underlying30 Try.underlying29)) ?_
    obtain ⟨has1, hx4, h⟩ := ob_e h
    refine Tops_exP rfl (OpT_callP [3, 4, 2] (w_gmem_Mem_Has hx4) [0, 1] [0] rfl rfl rfl rfl rfl callee48 rfl rfl rfl rfl rfl) ?_
    rintro _ ⟨_, _, _, ⟨rfl, rfl, rfl⟩, rfl⟩
    refine Tops_step rfl (OpT_not rfl rfl rfl rfl) ?_
    refine Tops_nil (tZ [0, 23, 24, 25, 36] [0, 1] [0, 1] rfl rfl rfl rfl ?_)
    rcases Bool.eq_false_or_eq_true ((!has1)) with hg4 | hg4
    ·replace h := br_t hg4 h
     refine Tk_condT (congrArg (fun b => some (Value.bool b)) hg4) ?_
     refine Tk_seq (Tk_region (Tops_step rfl (OpT_assign rfl rfl rfl rfl) ?_))
     refine Tops_nil (tZ [4] [0, 1] [0] rfl rfl rfl rfl ?_)
     obtain rfl := Option.some.inj h
     exact Tk_retV rfl rfl (resA (vs := [vI (5 : Int)]) rfl ⟨rfl, trivial⟩) [0, 1] [] rfl rfl rfl ⟨rfl, rfl, rfl⟩
    ·replace h := br_f hg4 h
     refine Tk_condF (congrArg (fun b => some (Value.bool b)) hg4) ?_
     refine Tk_skip (Tk_blk (Tk_region (Tops_step rfl (OpT_bin rfl rfl rfl rfl rfl (bin_add_i (a := x1) (b := (1 : Int)))) ?_)))
     refine Tops_step rfl (OpT_move rfl rfl rfl rfl) ?_
     refine Tops_nil (tZ [0, 23, 24, 25] [0, 1] [0, 1] rfl rfl rfl rfl ?_)
     exact Tk_backS (wi (x1 + (1 : Int))) h [0, 23, 24, 25] [0, 1] [0, 1] rfl rfl rfl rfl rfl
   ·replace h := br_f hg3 h
    refine Tk_condF (congrArg (fun b => some (Value.bool b)) hg3) ?_
    refine Tk_exit _ rfl ?_
    refine Tk_seq (Tk_region (Tops_step rfl (OpT_assign rfl rfl rfl rfl) ?_))
    refine Tops_nil (tZ [4] [0, 1] [0] rfl rfl rfl rfl ?_)
    obtain rfl := Option.some.inj h
    exact Tk_retV rfl rfl (resA (vs := [vI (0 : Int)]) rfl ⟨rfl, trivial⟩) [0, 1] [] rfl rfl rfl ⟨rfl, rfl, rfl⟩

set_option maxRecDepth 100000 in
set_option maxHeartbeats 4000000 in
theorem w_slices_Grow_bytebyten0 {np1 : Int} {r : (List UInt8)} (h : slices_Grow_bytebyten0 np1 = some r) :
  Ctr Try.prog 76 #[.slice none 0 0, vI np1] [] []
   (fun rv own shr => ∃ (w1 : Value), rv = w1 ∧ own = [(rowS u8S w1 r)] ∧ shr = []) := by
 unfold slices_Grow_bytebyten0 at h
 refine Ctr.mk (args := [.slice none 0 0, vI np1]) Try.func76 rfl rfl (fun R0 w0 B => ?_)
 refine Tk_seq (Tk_region (Tops_step rfl (OpT_assign rfl rfl rfl rfl) ?_))
 refine Tops_nil (tZ [0, 1] [] [] rfl rfl rfl rfl ?_)
 refine Tk_seq (Tk_seq (Tk_region (Tops_step rfl (OpT_move rfl rfl rfl rfl) ?_)))
 refine Tops_step rfl (OpT_bin rfl rfl rfl rfl rfl (bin_lss_i (a := np1) (b := (0 : Int)))) ?_
 refine Tops_nil (tZ [0, 1, 6] [] [] rfl rfl rfl rfl ?_)
 refine Tk_join (α := Unit) (fun s => ⟨[(0, some (.slice none 0 0)), (1, some (vI np1))], [], []⟩) (fun s => slices_Grow_bytebyten0J1 np1 = some r) ?_ ?_
 ·rintro _ h
  replace h : slices_Grow_bytebyten0J1 np1 = some r := h
  unfold slices_Grow_bytebyten0J1 at h
  refine Tk_seq (Tk_seq (Tk_region (Tops_step rfl (OpT_move rfl rfl rfl rfl) ?_)))
  refine Tops_step rfl (OpT_move rfl rfl rfl rfl) ?_
  refine Tops_step rfl (OpT_capN rfl rfl rfl rfl Try.underlying35) ?_
  refine Tops_step rfl (OpT_move rfl rfl rfl rfl) ?_
  refine Tops_step rfl (OpT_lenE rfl rfl rfl rfl Try.underlying35) ?_
  refine Tops_step rfl (OpT_bin rfl rfl rfl rfl rfl (bin_sub_i (a := (0 : Int)) (b := (0 : Int)))) ?_
  refine Tops_step rfl (OpT_bin rfl rfl rfl rfl rfl (bin_sub_i (a := np1) (b := wi ((0 : Int) - (0 : Int))))) ?_
  refine Tops_step rfl (OpT_assign rfl rfl rfl rfl) ?_
  refine Tops_nil (tZ [0, 1] [] [] rfl rfl rfl rfl ?_)
  refine Tk_seq (Tk_region (Tops_step rfl (OpT_move rfl rfl rfl rfl) ?_))
  refine Tops_step rfl (OpT_bin rfl rfl rfl rfl rfl (bin_gtr_i (a := wi (np1 - (wi ((0 : Int) - (0 : Int))))) (b := (0 : Int)))) ?_
  refine Tops_nil (tZ [0, 1, 16] [] [] rfl rfl rfl rfl ?_)
  rcases Bool.eq_false_or_eq_true (decide ((wi (np1 - (wi ((0 : Int) - (0 : Int))))) > (0 : Int))) with hg1 | hg1
  ·replace h := br_t hg1 h
   refine Tk_condT (congrArg (fun b => some (Value.bool b)) hg1) ?_
   refine Tk_region (Tops_step rfl (OpT_move rfl rfl rfl rfl) ?_)
   refine Tops_step rfl (OpT_move rfl rfl rfl rfl) ?_
   refine Tops_step rfl (OpT_capN rfl rfl rfl rfl Try.underlying35) ?_
   refine Tops_step rfl (OpT_sliceN rfl rfl rfl rfl rfl Try.underlying35 ⟨_, (slF35).sz⟩) ?_
   refine Tops_step rfl (OpT_move rfl rfl rfl rfl) ?_
   obtain ⟨hc1, h⟩ := chk_e h
   refine Tops_ex rfl (OpT_appendZ u8S rfl (l := wi (np1 - (wi ((0 : Int) - (0 : Int))))) (u := (0 : UInt8)) rfl rfl rfl rfl rfl slF35 Try.underlying3 rfl hc1) fun v1 => ?_
   refine Tops_step rfl (OpT_move rfl rfl rfl rfl) ?_
   refine Tops_step rfl (OpT_lenE rfl rfl rfl rfl Try.underlying35) ?_
   obtain ⟨hc2, h⟩ := chk_e h
   refine Tops_ex rfl (OpT_sliceO (m := (0 : Int)) rfl rfl rfl rfl rfl slF35 (i := 0) rfl hc2) fun v2 => ?_
   refine Tops_step rfl (OpT_assign rfl rfl rfl rfl) ?_
   refine Tops_nil (tZ [0] [0] [] rfl rfl rfl rfl ?_)
   refine Tk_seq (Tk_region (Tops_step rfl (OpT_move rfl rfl rfl rfl) ?_))
   refine Tops_step rfl (OpT_assign rfl rfl rfl rfl) ?_
   refine Tops_nil (tZ [4] [0] [] rfl rfl rfl rfl ?_)
   obtain rfl := Option.some.inj h
   exact Tk_retV rfl rfl (resA (vs := [v2]) rfl ⟨rfl, trivial⟩) [0] [] rfl rfl rfl ⟨v2, rfl, rfl, rfl⟩
  ·replace h := br_f hg1 h
   refine Tk_condF (congrArg (fun b => some (Value.bool b)) hg1) ?_
   refine Tk_skip (Tk_seq (Tk_region (Tops_step rfl (OpT_move rfl rfl rfl rfl) ?_)))
   refine Tops_step rfl (OpT_assign rfl rfl rfl rfl) ?_
   refine Tops_nil (tZ [4] [] [] rfl rfl rfl rfl ?_)
   refine Tk_nilrow u8S ?_
   obtain rfl := Option.some.inj h
   exact Tk_retV rfl rfl (resA (vs := [.slice none 0 0]) rfl ⟨rfl, trivial⟩) [0] [] rfl rfl rfl ⟨(.slice none 0 0), rfl, rfl, rfl⟩
 ·intro HJ1
  obtain ⟨hg2, h⟩ := chk_e h
  replace hg2 := not_t hg2
  refine Tk_condF (congrArg (fun b => some (Value.bool b)) hg2) ?_
  refine Tk_skip ?_
  exact Tk_jmpS (HJ1 () h) [0, 1] [] [] rfl rfl rfl rfl

set_option maxRecDepth 100000 in
set_option maxHeartbeats 4000000 in
theorem w_slices_Concat_bytebyte {slices : List (List UInt8)} {vslices1 : Value} {r : (List UInt8)} (h : slices_Concat_bytebyte slices = some r) :
  Ctr Try.prog 50 #[vslices1] [] [Fact.sl (Shape.slice u8S) vslices1 slices]
   (fun rv own shr => ∃ (w1 : Value), rv = w1 ∧ own = [(rowS u8S w1 r)] ∧ shr = []) := by
 unfold slices_Concat_bytebyte at h
 refine Ctr.mk (args := [vslices1]) Try.func50 rfl rfl (fun R0 w0 B => ?_)
 refine Tk_seq (Tk_region (Tops_step rfl (OpT_assign rfl rfl rfl rfl) ?_))
 refine Tops_nil (tZ [0] [] [0] rfl rfl rfl rfl ?_)
 refine Tk_seq (Tk_region (Tops_step rfl (OpT_assign rfl rfl rfl rfl) ?_))
 refine Tops_nil (Tk_seq (Tk_seq (Tk_region (Tops_step rfl (OpT_move rfl rfl rfl rfl) ?_))))
 refine Tops_step rfl (OpT_lenS rfl rfl rfl rfl Try.underlying81 (i := 0) rfl) ?_
 refine Tops_step rfl (OpT_move rfl rfl rfl rfl) ?_
 refine Tops_nil (Tk_block (Tk_loopS (σ := Int × Int) [0, 3, 9, 10, 11] [] [0] (fun s => ⟨[(0, some (vslices1)), (3, some (vI s.1)), (9, some (vslices1)), (10, some (vI (len slices))), (11, some (vI s.2))], [], [Fact.sl (Shape.slice u8S) vslices1 slices]⟩) (fun nf1 s => slices_Concat_bytebyteL1 slices nf1 s.1 s.2 = some r) fuel ((0 : Int), (0 : Int)) h rfl rfl rfl rfl rfl (fun s h => by cases h) ?_))
 rintro nf1 ⟨size1, x1⟩ h
 replace h : slices_Concat_bytebyteL1B slices (slices_Concat_bytebyteL1 slices nf1) size1 x1 = some r := h
 unfold slices_Concat_bytebyteL1B at h
 refine Tk_seq (Tk_region (Tops_step rfl (OpT_bin rfl rfl rfl rfl rfl (bin_lss_i (a := x1) (b := len slices))) ?_))
 refine Tops_nil (Tk_seq ?_)
 rcases Bool.eq_false_or_eq_true (decide (x1 < (len slices))) with hg1 | hg1
 ·replace h := br_t hg1 h
  refine Tk_condT (congrArg (fun b => some (Value.bool b)) hg1) ?_
  refine Tk_skip (Tk_seq (Tk_join (α := Int) (fun s => ⟨[(0, some (vslices1)), (3, some (vI s)), (9, some (vslices1)), (10, some (vI (len slices))), (11, some (vI x1))], [], [Fact.sl (Shape.slice u8S) vslices1 slices]⟩) (fun s => slices_Concat_bytebyteJ2 x1 (slices_Concat_bytebyteL1 slices nf1) s = some r) ?_ ?_))
  ·rintro size2 h
   replace h : slices_Concat_bytebyteJ2 x1 (slices_Concat_bytebyteL1 slices nf1) size2 = some r := h
   unfold slices_Concat_bytebyteJ2 at h
   refine Tk_region (Tops_step rfl (OpT_bin rfl rfl rfl rfl rfl (bin_add_i (a := x1) (b := (1 : Int)))) ?_)
   refine Tops_step rfl (OpT_move rfl rfl rfl rfl) ?_
   refine Tops_nil (tZ [0, 3, 9, 10, 11] [] [0] rfl rfl rfl rfl ?_)
   exact Tk_backS (size2, wi (x1 + (1 : Int))) h [0, 3, 9, 10, 11] [] [0] rfl rfl rfl rfl rfl
  ·intro HJ1
   refine Tk_block (Tk_seq (Tk_region ?_))
   obtain ⟨y1, hx1, h⟩ := ob_e h
   refine Tops_ex rfl (OpT_idxS rfl rfl rfl rfl rfl slF81 (i := 0) rfl hx1) fun p1 => ?_
   refine Tops_ex rfl (OpT_loadPS rfl rfl rfl rfl tyF35 (i := 1) rfl) fun v1 => ?_
   refine Tops_step rfl (OpT_assign rfl rfl rfl rfl) ?_
   refine Tops_nil (tZ [0, 3, 9, 10, 11, 5] [] [0, 2] rfl rfl rfl rfl ?_)
   refine Tk_seq (Tk_region (Tops_step rfl (OpT_move rfl rfl rfl rfl) ?_))
   refine Tops_step rfl (OpT_move rfl rfl rfl rfl) ?_
   refine Tops_step rfl (OpT_lenS rfl rfl rfl rfl Try.underlying35 (i := 1) rfl) ?_
   refine Tops_step rfl (OpT_bin rfl rfl rfl rfl rfl (bin_add_i (a := size1) (b := len y1))) ?_
   refine Tops_step rfl (OpT_assign rfl rfl rfl rfl) ?_
   refine Tops_nil (tZ [0, 3, 9, 10, 11] [] [0] rfl rfl rfl rfl ?_)
   refine Tk_seq (Tk_region (Tops_step rfl (OpT_move rfl rfl rfl rfl) ?_))
   refine Tops_step rfl (OpT_bin rfl rfl rfl rfl rfl (bin_lss_i (a := wi (size1 + (len y1))) (b := (0 : Int)))) ?_
   refine Tops_nil (tZ [0, 3, 9, 10, 11, 20] [] [0] rfl rfl rfl rfl ?_)
   refine Tk_join (α := Unit) (fun s => ⟨[(0, some (vslices1)), (3, some (vI (wi (size1 + (len y1))))), (9, some (vslices1)), (10, some (vI (len slices))), (11, some (vI x1))], [], [Fact.sl (Shape.slice u8S) vslices1 slices]⟩) (fun s => slices_Concat_bytebyteJ3 size1 x1 (slices_Concat_bytebyteL1 slices nf1) y1 = some r) ?_ ?_
   ·rintro _ h
    replace h : slices_Concat_bytebyteJ3 size1 x1 (slices_Concat_bytebyteL1 slices nf1) y1 = some r := h
    unfold slices_Concat_bytebyteJ3 at h
    refine Tk_blk ?_
    exact Tk_jmpS (HJ1 (wi (size1 + (len y1))) h) [0, 3, 9, 10, 11] [] [0] rfl rfl rfl rfl
   ·intro HJ2
    obtain ⟨hg2, h⟩ := chk_e h
    replace hg2 := not_t hg2
    refine Tk_condF (congrArg (fun b => some (Value.bool b)) hg2) ?_
    refine Tk_skip ?_
    exact Tk_jmpS (HJ2 () h) [0, 3, 9, 10, 11] [] [0] rfl rfl rfl rfl
 ·replace h := br_f hg1 h
  refine Tk_condF (congrArg (fun b => some (Value.bool b)) hg1) ?_
  refine Tk_exit _ rfl ?_
  refine Tk_seq (Tk_region (Tops_step rfl (OpT_move rfl rfl rfl rfl) ?_))
  obtain ⟨growby1, hx2, h⟩ := ob_e h
  refine Tops_exP rfl (OpT_call (w_slices_Grow_bytebyten0 hx2) [] [] rfl rfl rfl rfl rfl callee76 rfl rfl rfl rfl) ?_
  rintro _ ⟨v2, _, _, ⟨_, rfl, rfl, rfl⟩, rfl⟩
  refine Tops_step rfl (OpT_assign rfl rfl rfl rfl) ?_
  refine Tops_nil (tZ [0, 6] [0] [0] rfl rfl rfl rfl ?_)
  refine Tk_seq (Tk_seq (Tk_region (Tops_step rfl (OpT_move rfl rfl rfl rfl) ?_)))
  refine Tops_step rfl (OpT_lenS rfl rfl rfl rfl Try.underlying81 (i := 0) rfl) ?_
  refine Tops_step rfl (OpT_move rfl rfl rfl rfl) ?_
  refine Tops_nil (tZ [6, 25, 26, 27] [0] [0] rfl rfl rfl rfl ?_)
  refine Tk_block (Tk_loopS (σ := (List UInt8) × Int × Value) [6, 25, 26, 27] [0] [0] (fun s => ⟨[(6, some (s.2.2)), (25, some (vslices1)), (26, some (vI (len slices))), (27, some (vI s.2.1))], [some (rowS u8S s.2.2 s.1)], [Fact.sl (Shape.slice u8S) vslices1 slices]⟩) (fun nf4 s => slices_Concat_bytebyteL4 slices nf4 s.1 s.2.1 = some r) fuel (growby1, (0 : Int), v2) h rfl rfl rfl rfl rfl (fun s h => by cases h) ?_)
  rintro nf4 ⟨newslice1, x2, v3⟩ h
  replace h : slices_Concat_bytebyteL4B slices (slices_Concat_bytebyteL4 slices nf4) newslice1 x2 = some r := h
  unfold slices_Concat_bytebyteL4B at h
  refine Tk_seq (Tk_region (Tops_step rfl (OpT_bin rfl rfl rfl rfl rfl (bin_lss_i (a := x2) (b := len slices))) ?_))
  refine Tops_nil (Tk_seq ?_)
  rcases Bool.eq_false_or_eq_true (decide (x2 < (len slices))) with hg3 | hg3
  ·replace h := br_t hg3 h
   refine Tk_condT (congrArg (fun b => some (Value.bool b)) hg3) ?_
   refine Tk_skip (Tk_seq (Tk_block (Tk_seq (Tk_region ?_))))
   obtain ⟨y2, hx3, h⟩ := ob_e h
   refine Tops_ex rfl (OpT_idxS rfl rfl rfl rfl rfl slF81 (i := 0) rfl hx3) fun p2 => ?_
   refine Tops_ex rfl (OpT_loadPS rfl rfl rfl rfl tyF35 (i := 1) rfl) fun v4 => ?_
   refine Tops_step rfl (OpT_assign rfl rfl rfl rfl) ?_
   refine Tops_nil (tZ [6, 25, 26, 27, 8] [0] [0, 2] rfl rfl rfl rfl ?_)
   refine Tk_region (Tops_step rfl (OpT_move rfl rfl rfl rfl) ?_)
   refine Tops_step rfl (OpT_move rfl rfl rfl rfl) ?_
   obtain ⟨hc1, h⟩ := chk_e h
   refine Tops_ex rfl (OpT_append rfl rfl rfl rfl rfl slF35 (i := 0) (j := 1) rfl rfl hc1) fun v5 => ?_
   refine Tops_step rfl (OpT_assign rfl rfl rfl rfl) ?_
   refine Tops_nil (tZ [6, 25, 26, 27] [0] [0] rfl rfl rfl rfl ?_)
   refine Tk_blk (Tk_region (Tops_step rfl (OpT_bin rfl rfl rfl rfl rfl (bin_add_i (a := x2) (b := (1 : Int)))) ?_))
   refine Tops_step rfl (OpT_move rfl rfl rfl rfl) ?_
   refine Tops_nil (tZ [6, 25, 26, 27] [0] [0] rfl rfl rfl rfl ?_)
   exact Tk_backS (newslice1 ++ y2, wi (x2 + (1 : Int)), v5) h [6, 25, 26, 27] [0] [0] rfl rfl rfl rfl rfl
  ·replace h := br_f hg3 h
   refine Tk_condF (congrArg (fun b => some (Value.bool b)) hg3) ?_
   refine Tk_exit _ rfl ?_
   refine Tk_seq (Tk_region (Tops_step rfl (OpT_move rfl rfl rfl rfl) ?_))
   refine Tops_step rfl (OpT_assign rfl rfl rfl rfl) ?_
   refine Tops_nil (tZ [2] [0] [] rfl rfl rfl rfl ?_)
   obtain rfl := Option.some.inj h
   exact Tk_retV rfl rfl (resA (vs := [v3]) rfl ⟨rfl, trivial⟩) [0] [] rfl rfl rfl ⟨v3, rfl, rfl, rfl⟩

set_option maxRecDepth 100000 in
set_option maxHeartbeats 4000000 in
theorem w_seg_Gather {m : gmem_Mem} {l : List Seg} {b_m : Nat} {vm1 : Value} {vm2 : Value} {vsm1 : List Value} {vl1 : Value} {r : ((List UInt8) × Int)} (h : seg_Gather m l = some r) :
  Ctr Try.prog 54 #[.pointer (some ⟨b_m, 0, none⟩), vl1] [(cellsR b_m 83 [vm1, vm2]), (rowsX u8S true vm2 vsm1 m.b none)] [Fact.sl RegionS vm1 m.l, Fact.sl SegS vl1 l]
   (fun rv own shr => ∃ (w1 : Value), rv = .tuple #[w1, vI r.2] ∧ own = [(cellsR b_m 83 [vm1, vm2]), (rowsX u8S true vm2 vsm1 m.b none), (rowS u8S w1 r.1)] ∧ shr = []) := by
 unfold seg_Gather at h
 refine Ctr.mk (args := [.pointer (some ⟨b_m, 0, none⟩), vl1]) Try.func54 rfl rfl (fun R0 w0 B => ?_)
 refine Tk_seq (Tk_region (Tops_step rfl (OpT_assign rfl rfl rfl rfl) ?_))
 refine Tops_step rfl (OpT_assign rfl rfl rfl rfl) ?_
 refine Tops_nil (tZ [0, 1] [0, 1] [0, 1] rfl rfl rfl rfl ?_)
 refine Tk_seq (Tk_seq (Tk_region (Tops_step rfl (OpT_move rfl rfl rfl rfl) ?_)))
 refine Tops_step rfl (OpT_move rfl rfl rfl rfl) ?_
 obtain ⟨in1, hx1, h⟩ := ob_e h
 refine Tops_exP rfl (OpT_callP [2, 3] (w_seg_In hx1) [0, 1] [0, 1] rfl rfl rfl rfl rfl callee52 rfl rfl rfl rfl rfl) ?_
 rintro _ ⟨_, _, _, ⟨rfl, rfl, rfl⟩, rfl⟩
 refine Tops_step rfl (OpT_assign rfl rfl rfl rfl) ?_
 refine Tops_nil (tZ [0, 1, 6] [0, 1] [0, 1] rfl rfl rfl rfl ?_)
 refine Tk_seq (Tk_region (Tops_step rfl (OpT_move rfl rfl rfl rfl) ?_))
 refine Tops_step rfl (OpT_bin rfl rfl rfl rfl rfl (bin_neq_i (a := in1) (b := (0 : Int)))) ?_
 refine Tops_nil (tZ [0, 1, 6, 16] [0, 1] [0, 1] rfl rfl rfl rfl ?_)
 rcases Bool.eq_false_or_eq_true (in1 != (0 : Int)) with hg1 | hg1
 ·replace h := br_t hg1 h
  refine Tk_condT (congrArg (fun b => some (Value.bool b)) hg1) ?_
  refine Tk_seq (Tk_region (Tops_step rfl (OpT_move rfl rfl rfl rfl) ?_))
  refine Tops_step rfl (OpT_assign rfl rfl rfl rfl) ?_
  refine Tops_step rfl (OpT_assign rfl rfl rfl rfl) ?_
  refine Tops_nil (tZ [4, 5] [0, 1] [0] rfl rfl rfl rfl ?_)
  refine Tk_nilrow u8S ?_
  obtain rfl := Option.some.inj h
  exact Tk_retV rfl rfl (resA (vs := [.slice none 0 0, vI in1]) rfl ⟨rfl, rfl, trivial⟩) [0, 1, 2] [] rfl rfl rfl ⟨(.slice none 0 0), rfl, rfl, rfl⟩
 ·replace h := br_f hg1 h
  refine Tk_condF (congrArg (fun b => some (Value.bool b)) hg1) ?_
  refine Tk_skip (Tk_seq (Tk_region (Tops_step rfl (OpT_assign rfl rfl rfl rfl) ?_)))
  refine Tops_nil (tZ [0, 1, 7] [0, 1] [0, 1] rfl rfl rfl rfl ?_)
  refine Tk_seq (Tk_seq (Tk_region (Tops_step rfl (OpT_move rfl rfl rfl rfl) ?_)))
  obtain ⟨part1, hx2, h⟩ := ob_e h
  refine Tops_exP rfl (OpT_call (w_seg_Part hx2) [] [1] rfl rfl rfl rfl rfl callee40 rfl rfl rfl rfl) ?_
  rintro _ ⟨v1, _, _, ⟨_, rfl, rfl, rfl⟩, rfl⟩
  refine Tops_step rfl (OpT_lenO rfl rfl rfl rfl Try.underlying22 (i := 2) rfl) ?_
  refine Tops_step rfl (OpT_move rfl rfl rfl rfl) ?_
  refine Tops_nil (tZ [0, 7, 19, 20, 21] [0, 1, 2] [0] rfl rfl rfl rfl ?_)
  refine Tk_block (Tk_nilrow (Shape.slice u8S) ?_)
  refine Tk_loopS (σ := (List (List UInt8)) × (List Seg) × Int × Value × Value) [0, 7, 19, 20, 21] [0, 1, 3, 2] [0] (fun s => ⟨[(0, some (.pointer (some ⟨b_m, 0, none⟩))), (7, some (s.2.2.2.1)), (19, some (s.2.2.2.2)), (20, some (vI (len part1))), (21, some (vI s.2.2.1))], [some (cellsR b_m 83 [vm1, vm2]), some (rowsX u8S true vm2 vsm1 m.b none), some (rowS (Shape.slice u8S) s.2.2.2.1 s.1), some (rowS SegS s.2.2.2.2 s.2.1)], [Fact.sl RegionS vm1 m.l]⟩) (fun nf1 s => seg_GatherL1 m part1 nf1 s.1 s.2.1 s.2.2.1 = some r) fuel ([], part1, (0 : Int), (.slice none 0 0), v1) h rfl rfl rfl rfl rfl (fun s h => by cases h) ?_
  rintro nf1 ⟨parts1, l1, x1, v2, v3⟩ h
  replace h : seg_GatherL1B m part1 (seg_GatherL1 m part1 nf1) parts1 l1 x1 = some r := h
  unfold seg_GatherL1B at h
  refine Tk_seq (Tk_region (Tops_step rfl (OpT_bin rfl rfl rfl rfl rfl (bin_lss_i (a := x1) (b := len part1))) ?_))
  refine Tops_nil (Tk_seq ?_)
  rcases Bool.eq_false_or_eq_true (decide (x1 < (len part1))) with hg2 | hg2
  ·replace h := br_t hg2 h
   refine Tk_condT (congrArg (fun b => some (Value.bool b)) hg2) ?_
   refine Tk_skip (Tk_seq (Tk_block (Tk_seq (Tk_region ?_))))
   obtain ⟨s1, hx3, h⟩ := ob_e h
   refine Tops_step rfl (OpT_idxO rfl rfl rfl rfl rfl slF22 (i := 3) rfl hx3) ?_
   refine Tops_step rfl (OpT_loadOA (S := SegS) (vs := [vU64 s1.At, vU32 s1.Len, vB s1.Write]) rfl rfl rfl rfl rfl tyF32 (i := 3) rfl hx3 rfl) ?_
   refine Tops_ex rfl (OpT_alloc rfl rfl rfl tyZ32) fun b1 => ?_
   refine Tops_step rfl (OpT_storeC (cs' := [vU64 s1.At, vU32 s1.Len, vB s1.Write]) rfl rfl rfl rfl tyF32 (i := 4) rfl rfl rfl (one_of rfl) rfl) ?_
   refine Tops_nil (tZ [0, 7, 19, 20, 21, 9] [0, 1, 2, 3, 4] [0] rfl rfl rfl rfl ?_)
   refine Tk_seq (Tk_region (Tops_step rfl (OpT_move rfl rfl rfl rfl) ?_))
   refine Tops_step rfl (OpT_fieldC rfl rfl rfl rfl fldF32x0) ?_
   refine Tops_step rfl (OpT_loadC rfl rfl rfl rfl tyF29 (i := 4) rfl rfl) ?_
   refine Tops_step rfl (OpT_fieldC rfl rfl rfl rfl fldF32x1) ?_
   refine Tops_step rfl (OpT_loadC rfl rfl rfl rfl tyF30 (i := 4) rfl rfl) ?_
   refine Tops_step rfl (OpT_cnv rfl rfl rfl rfl (cnv_u32_i (n := s1.Len) Try.underlying30 Try.underlying3)) ?_
   obtain ⟨read1, hx4, h⟩ := ob_e h
   refine Tops_exP rfl (OpT_callP [5, 6, 2, 3, 4, 7] (w_gmem_Mem_Read hx4) [0, 1] [0] rfl rfl rfl rfl rfl callee77 rfl rfl rfl rfl rfl) ?_
   rintro _ ⟨_, _, _, ⟨v4, rfl, rfl, rfl⟩, rfl⟩
   refine Tops_step rfl (OpT_move rfl rfl rfl rfl) ?_
   refine Tops_step rfl (OpT_extract rfl rfl rfl rfl rfl) ?_
   refine Tops_step rfl (OpT_extract rfl rfl rfl rfl rfl) ?_
   refine Tops_step rfl (OpT_assign rfl rfl rfl rfl) ?_
   refine Tops_step rfl (OpT_assign rfl rfl rfl rfl) ?_
   refine Tops_nil (tZ [0, 7, 19, 20, 21, 10, 11] [0, 1, 2, 3, 5] [0] rfl rfl rfl rfl ?_)
   refine Tk_seq (Tk_seq (Tk_region (Tops_step rfl (OpT_move rfl rfl rfl rfl) ?_)))
   refine Tops_step rfl (OpT_bin rfl rfl rfl rfl rfl (bin_neq_i (a := read1.2) (b := (0 : Int)))) ?_
   refine Tops_nil (tZ [0, 7, 19, 20, 21, 10, 11, 36] [0, 1, 2, 3, 4] [0] rfl rfl rfl rfl ?_)
   rcases Bool.eq_false_or_eq_true (read1.2 != (0 : Int)) with hg3 | hg3
   ·replace h := br_t hg3 h
    refine Tk_condT (congrArg (fun b => some (Value.bool b)) hg3) ?_
    refine Tk_seq (Tk_region (Tops_step rfl (OpT_move rfl rfl rfl rfl) ?_))
    refine Tops_step rfl (OpT_assign rfl rfl rfl rfl) ?_
    refine Tops_step rfl (OpT_assign rfl rfl rfl rfl) ?_
    refine Tops_nil (tZ [4, 5] [0, 1] [0] rfl rfl rfl rfl ?_)
    refine Tk_nilrow u8S ?_
    obtain rfl := Option.some.inj h
    exact Tk_retV rfl rfl (resA (vs := [.slice none 0 0, vI read1.2]) rfl ⟨rfl, rfl, trivial⟩) [0, 1, 2] [] rfl rfl rfl ⟨(.slice none 0 0), rfl, rfl, rfl⟩
   ·replace h := br_f hg3 h
    refine Tk_condF (congrArg (fun b => some (Value.bool b)) hg3) ?_
    refine Tk_skip (Tk_region (Tops_step rfl (OpT_move rfl rfl rfl rfl) ?_))
    refine Tops_step rfl (OpT_move rfl rfl rfl rfl) ?_
    refine Tops_retire (i := 4) rfl ?_
    refine Tops_ex rfl (OpT_buildSl (Shape.slice u8S) (vs := [v4]) (xs := [read1.1]) rfl rfl rfl rfl rfl slF81 (isl_cons (is_sl (i := 1) rfl) isl_nil) rfl rfl rfl (rel_cons (rel_sl (i := 1) rfl) (rel_nil rfl))) fun v5 => ?_
    refine Tops_retire (i := 5) rfl ?_
    obtain ⟨hc1, h⟩ := chk_e h
    refine Tops_ex rfl (OpT_append rfl rfl rfl rfl rfl slF81 (i := 2) (j := 2) rfl rfl hc1) fun v6 => ?_
    refine Tops_step rfl (OpT_assign rfl rfl rfl rfl) ?_
    refine Tops_nil (tZ [0, 7, 19, 20, 21] [0, 1, 2, 3] [0] rfl rfl rfl rfl ?_)
    refine Tk_blk (Tk_region (Tops_step rfl (OpT_bin rfl rfl rfl rfl rfl (bin_add_i (a := x1) (b := (1 : Int)))) ?_))
    refine Tops_step rfl (OpT_move rfl rfl rfl rfl) ?_
    refine Tops_nil (tZ [0, 7, 19, 20, 21] [0, 1, 2, 3] [0] rfl rfl rfl rfl ?_)
    exact Tk_backS (parts1 ++ [read1.1], l1, wi (x1 + (1 : Int)), v6, v3) h [0, 7, 19, 20, 21] [0, 1, 2, 3] [0] rfl rfl rfl rfl rfl
  ·replace h := br_f hg2 h
   refine Tk_condF (congrArg (fun b => some (Value.bool b)) hg2) ?_
   refine Tk_exit _ rfl ?_
   refine Tk_seq (Tk_region (Tops_step rfl (OpT_move rfl rfl rfl rfl) ?_))
   obtain ⟨concat1, hx5, h⟩ := ob_e h
   refine Tops_exP rfl (OpT_callB [2] [0, 1, 2, 3, 4] (w_slices_Concat_bytebyte hx5) [] rfl rfl rfl rfl rfl callee50 rfl rfl rfl rfl rfl rfl (bor_cons (bor_row 2 rfl rfl) bor_nil) (by rintro _ _ _ ⟨_, rfl, rfl, rfl⟩; exact ⟨rfl, (ri_cons (ri_row (S := u8S) rfl _ _) ri_nil)⟩)) ?_
   rintro _ ⟨v7, _, _, ⟨_, rfl, rfl, rfl⟩, rfl⟩
   refine Tops_step rfl (OpT_assign rfl rfl rfl rfl) ?_
   refine Tops_step rfl (OpT_assign rfl rfl rfl rfl) ?_
   refine Tops_nil (tZ [4, 5] [0, 1, 4] [0] rfl rfl rfl rfl ?_)
   obtain rfl := Option.some.inj h
   exact Tk_retV rfl rfl (resA (vs := [v7, vI (0 : Int)]) rfl ⟨rfl, rfl, trivial⟩) [0, 1, 2] [] rfl rfl rfl ⟨v7, rfl, rfl, rfl⟩

set_option maxRecDepth 100000 in
set_option maxHeartbeats 4000000 in
theorem w_blkdrv_Result {m : gmem_Mem} {l : List Seg} {written : UInt32} {b_m : Nat} {vm1 : Value} {vm2 : Value} {vsm1 : List Value} {vl1 : Value} {r : ((List UInt8) × UInt8 × Int)} (h : blkdrv_Result m l written = some r) :
  Ctr Try.prog 23 #[.pointer (some ⟨b_m, 0, none⟩), vl1, vU32 written] [(cellsR b_m 83 [vm1, vm2]), (rowsX u8S true vm2 vsm1 m.b none)] [Fact.sl RegionS vm1 m.l, Fact.sl SegS vl1 l]
   (fun rv own shr => ∃ (w1 : Value), rv = .tuple #[w1, vU8 r.2.1, vI r.2.2] ∧ own = [(cellsR b_m 83 [vm1, vm2]), (rowsX u8S true vm2 vsm1 m.b none)] ∧ shr = [Fact.sl u8S w1 r.1]) := by
 unfold blkdrv_Result at h
 refine Ctr.mk (args := [.pointer (some ⟨b_m, 0, none⟩), vl1, vU32 written]) Try.func23 rfl rfl (fun R0 w0 B => ?_)
 refine Tk_seq (Tk_region (Tops_step rfl (OpT_assign rfl rfl rfl rfl) ?_))
 refine Tops_step rfl (OpT_assign rfl rfl rfl rfl) ?_
 refine Tops_step rfl (OpT_assign rfl rfl rfl rfl) ?_
 refine Tops_nil (tZ [0, 1, 2] [0, 1] [0, 1] rfl rfl rfl rfl ?_)
 refine Tk_seq (Tk_seq (Tk_region (Tops_step rfl (OpT_move rfl rfl rfl rfl) ?_)))
 refine Tops_step rfl (OpT_move rfl rfl rfl rfl) ?_
 obtain ⟨in1, hx1, h⟩ := ob_e h
 refine Tops_exP rfl (OpT_callP [2, 3] (w_seg_In hx1) [0, 1] [0, 1] rfl rfl rfl rfl rfl callee52 rfl rfl rfl rfl rfl) ?_
 rintro _ ⟨_, _, _, ⟨rfl, rfl, rfl⟩, rfl⟩
 refine Tops_step rfl (OpT_assign rfl rfl rfl rfl) ?_
 refine Tops_nil (tZ [0, 1, 2, 9] [0, 1] [0, 1] rfl rfl rfl rfl ?_)
 refine Tk_seq (Tk_region (Tops_step rfl (OpT_move rfl rfl rfl rfl) ?_))
 refine Tops_step rfl (OpT_bin rfl rfl rfl rfl rfl (bin_neq_i (a := in1) (b := (0 : Int)))) ?_
 refine Tops_nil (tZ [0, 1, 2, 9, 21] [0, 1] [0, 1] rfl rfl rfl rfl ?_)
 rcases Bool.eq_false_or_eq_true (in1 != (0 : Int)) with hg1 | hg1
 ·replace h := br_t hg1 h
  refine Tk_condT (congrArg (fun b => some (Value.bool b)) hg1) ?_
  refine Tk_seq (Tk_region (Tops_step rfl (OpT_move rfl rfl rfl rfl) ?_))
  refine Tops_step rfl (OpT_assign rfl rfl rfl rfl) ?_
  refine Tops_step rfl (OpT_assign rfl rfl rfl rfl) ?_
  refine Tops_step rfl (OpT_assign rfl rfl rfl rfl) ?_
  refine Tops_nil (tZ [6, 7, 8] [0, 1] [0] rfl rfl rfl rfl ?_)
  refine Tk_nilfact u8S ?_
  obtain rfl := Option.some.inj h
  exact Tk_retV rfl rfl (resA (vs := [.slice none 0 0, vU8 (0 : UInt8), vI in1]) rfl ⟨rfl, rfl, rfl, trivial⟩) [0, 1] [1] rfl rfl rfl ⟨(.slice none 0 0), rfl, rfl, rfl⟩
 ·replace h := br_f hg1 h
  refine Tk_condF (congrArg (fun b => some (Value.bool b)) hg1) ?_
  refine Tk_skip (Tk_seq (Tk_region (Tops_step rfl (OpT_move rfl rfl rfl rfl) ?_)))
  obtain ⟨part1, hx2, h⟩ := ob_e h
  refine Tops_exP rfl (OpT_call (w_seg_Part hx2) [] [1] rfl rfl rfl rfl rfl callee40 rfl rfl rfl rfl) ?_
  rintro _ ⟨v1, _, _, ⟨_, rfl, rfl, rfl⟩, rfl⟩
  refine Tops_step rfl (OpT_assign rfl rfl rfl rfl) ?_
  refine Tops_nil (tZ [0, 2, 10] [0, 1, 2] [0] rfl rfl rfl rfl ?_)
  refine Tk_seq (Tk_region (Tops_step rfl (OpT_move rfl rfl rfl rfl) ?_))
  obtain ⟨total1, hx3, h⟩ := ob_e h
  refine Tops_exP rfl (OpT_callB [2] [0, 1, 2] (w_seg_Total hx3) [] rfl rfl rfl rfl rfl callee53 rfl rfl rfl rfl rfl rfl (bor_cons (bor_row 2 rfl rfl) bor_nil) (by rintro _ _ _ ⟨rfl, rfl, rfl⟩; exact ⟨rfl, ri_nil⟩)) ?_
  rintro _ ⟨_, _, _, ⟨rfl, rfl, rfl⟩, rfl⟩
  refine Tops_step rfl (OpT_move rfl rfl rfl rfl) ?_
  refine Tops_step rfl (OpT_extract rfl rfl rfl rfl rfl) ?_
  refine Tops_step rfl (OpT_extract rfl rfl rfl rfl rfl) ?_
  refine Tops_step rfl (OpT_assign rfl rfl rfl rfl) ?_
  refine Tops_step rfl (OpT_assign rfl rfl rfl rfl) ?_
  refine Tops_nil (tZ [0, 2, 10, 12] [0, 1, 2] [0] rfl rfl rfl rfl ?_)
  refine Tk_seq (Tk_block (Tk_seq (Tk_region (Tops_step rfl (OpT_move rfl rfl rfl rfl) ?_))))
  refine Tops_step rfl (OpT_bin rfl rfl rfl rfl rfl (bin_eql_u64 (a := total1.2) (b := (0 : UInt64)))) ?_
  refine Tops_step rfl (OpT_assign rfl rfl rfl rfl) ?_
  refine Tops_nil (tZ [0, 2, 10, 12, 30] [0, 1, 2] [0] rfl rfl rfl rfl ?_)
  rcases Bool.eq_false_or_eq_true (total1.2 == (0 : UInt64)) with hg2 | hg2
  ·replace h := br_t hg2 h
   refine Tk_condT (congrArg (fun b => some (Value.bool b)) hg2) ?_
   refine Tk_seq (Tk_region (Tops_step rfl (OpT_assign rfl rfl rfl rfl) ?_))
   refine Tops_step rfl (OpT_assign rfl rfl rfl rfl) ?_
   refine Tops_step rfl (OpT_assign rfl rfl rfl rfl) ?_
   refine Tops_nil (tZ [6, 7, 8] [0, 1] [0] rfl rfl rfl rfl ?_)
   refine Tk_nilfact u8S ?_
   obtain rfl := Option.some.inj h
   exact Tk_retV rfl rfl (resA (vs := [.slice none 0 0, vU8 (0 : UInt8), vI (2 : Int)]) rfl ⟨rfl, rfl, rfl, trivial⟩) [0, 1] [1] rfl rfl rfl ⟨(.slice none 0 0), rfl, rfl, rfl⟩
  ·replace h := br_f hg2 h
   refine Tk_condF (congrArg (fun b => some (Value.bool b)) hg2) ?_
   refine Tk_seq (Tk_region (Tops_step rfl (OpT_move rfl rfl rfl rfl) ?_))
   refine Tops_step rfl (OpT_bin rfl rfl rfl rfl rfl (bin_eql_u32 (a := written) (b := (0 : UInt32)))) ?_
   refine Tops_step rfl (OpT_move rfl rfl rfl rfl) ?_
   rcases Bool.eq_false_or_eq_true (written == (0 : UInt32)) with hg3 | hg3
   ·replace h := br_t hg3 h
    refine Tops_no rfl rfl (congrArg (fun b => some (Value.bool b)) hg3) rfl rfl ?_
    refine Tops_no rfl rfl (congrArg (fun b => some (Value.bool b)) hg3) rfl rfl ?_
    refine Tops_no rfl rfl (congrArg (fun b => some (Value.bool b)) hg3) rfl rfl ?_
    refine Tops_no rfl rfl (congrArg (fun b => some (Value.bool b)) hg3) rfl rfl ?_
    refine Tops_step rfl (OpT_pickT rfl rfl rfl (congrArg (fun b => some (Value.bool b)) hg3) rfl) ?_
    refine Tops_step rfl (OpT_assign rfl rfl rfl rfl) ?_
    refine Tops_nil (tZ [0, 2, 10, 12, 33] [0, 1, 2] [0] rfl rfl rfl rfl ?_)
    refine Tk_condT rfl ?_
    refine Tk_seq (Tk_region (Tops_step rfl (OpT_assign rfl rfl rfl rfl) ?_))
    refine Tops_step rfl (OpT_assign rfl rfl rfl rfl) ?_
    refine Tops_step rfl (OpT_assign rfl rfl rfl rfl) ?_
    refine Tops_nil (tZ [6, 7, 8] [0, 1] [0] rfl rfl rfl rfl ?_)
    refine Tk_nilfact u8S ?_
    obtain rfl := Option.some.inj h
    exact Tk_retV rfl rfl (resA (vs := [.slice none 0 0, vU8 (0 : UInt8), vI (4 : Int)]) rfl ⟨rfl, rfl, rfl, trivial⟩) [0, 1] [1] rfl rfl rfl ⟨(.slice none 0 0), rfl, rfl, rfl⟩
   ·replace h := br_f hg3 h
    refine Tops_yes rfl rfl (congrArg (fun b => some (Value.bool b)) hg3) (OpT_move rfl rfl rfl rfl) ?_
    rintro _ rfl
    refine Tops_yes rfl rfl (congrArg (fun b => some (Value.bool b)) hg3) (OpT_cnv rfl rfl rfl rfl (cnv_u32_u64 (n := written) Try.underlying30 Try.underlying29)) ?_
    rintro _ rfl
    refine Tops_yes rfl rfl (congrArg (fun b => some (Value.bool b)) hg3) (OpT_move rfl rfl rfl rfl) ?_
    rintro _ rfl
    refine Tops_yes rfl rfl (congrArg (fun b => some (Value.bool b)) hg3) (OpT_bin rfl rfl rfl rfl rfl (bin_gtr_u64 (a := written.toUInt64) (b := total1.2))) ?_
    rintro _ rfl
    refine Tops_step rfl (OpT_pickF rfl rfl rfl (congrArg (fun b => some (Value.bool b)) hg3) rfl) ?_
    refine Tops_step rfl (OpT_assign rfl rfl rfl rfl) ?_
    refine Tops_nil (tZ [0, 2, 10, 12, 33] [0, 1, 2] [0] rfl rfl rfl rfl ?_)
    rcases Bool.eq_false_or_eq_true (decide (written.toUInt64 > total1.2)) with hg4 | hg4
    ·replace h := br_t hg4 h
     refine Tk_condT (congrArg (fun b => some (Value.bool b)) hg4) ?_
     refine Tk_seq (Tk_region (Tops_step rfl (OpT_assign rfl rfl rfl rfl) ?_))
     refine Tops_step rfl (OpT_assign rfl rfl rfl rfl) ?_
     refine Tops_step rfl (OpT_assign rfl rfl rfl rfl) ?_
     refine Tops_nil (tZ [6, 7, 8] [0, 1] [0] rfl rfl rfl rfl ?_)
     refine Tk_nilfact u8S ?_
     obtain rfl := Option.some.inj h
     exact Tk_retV rfl rfl (resA (vs := [.slice none 0 0, vU8 (0 : UInt8), vI (4 : Int)]) rfl ⟨rfl, rfl, rfl, trivial⟩) [0, 1] [1] rfl rfl rfl ⟨(.slice none 0 0), rfl, rfl, rfl⟩
    ·replace h := br_f hg4 h
     refine Tk_condF (congrArg (fun b => some (Value.bool b)) hg4) ?_
     refine Tk_skip (Tk_blk (Tk_seq (Tk_seq (Tk_region (Tops_step rfl (OpT_move rfl rfl rfl rfl) ?_)))))
     refine Tops_step rfl (OpT_lenO rfl rfl rfl rfl Try.underlying22 (i := 2) rfl) ?_
     refine Tops_step rfl (OpT_move rfl rfl rfl rfl) ?_
     refine Tops_nil (tZ [0, 2, 10, 12, 43, 44] [0, 1, 2] [0] rfl rfl rfl rfl ?_)
     refine Tk_block (Tk_loopS (σ := (List Seg) × Int × Value) [0, 2, 10, 12, 43, 44] [0, 1, 2] [0] (fun s => ⟨[(0, some (.pointer (some ⟨b_m, 0, none⟩))), (2, some (vU32 written)), (10, some (s.2.2)), (12, some (vU64 total1.2)), (43, some (vI (len part1))), (44, some (vI s.2.1))], [some (cellsR b_m 83 [vm1, vm2]), some (rowsX u8S true vm2 vsm1 m.b none), some (rowS SegS s.2.2 s.1)], [Fact.sl RegionS vm1 m.l]⟩) (fun nf1 s => blkdrv_ResultL1 m written part1 total1 nf1 s.1 s.2.1 = some r) fuel (part1, (0 : Int), v1) h rfl rfl rfl rfl rfl (fun s h => by cases h) ?_)
     rintro nf1 ⟨l1, x1, v2⟩ h
     replace h : blkdrv_ResultL1B m written part1 total1 (blkdrv_ResultL1 m written part1 total1 nf1) l1 x1 = some r := h
     unfold blkdrv_ResultL1B at h
     refine Tk_seq (Tk_region (Tops_step rfl (OpT_bin rfl rfl rfl rfl rfl (bin_lss_i (a := x1) (b := len part1))) ?_))
     refine Tops_nil (Tk_seq ?_)
     rcases Bool.eq_false_or_eq_true (decide (x1 < (len part1))) with hg5 | hg5
     ·replace h := br_t hg5 h
      refine Tk_condT (congrArg (fun b => some (Value.bool b)) hg5) ?_
      refine Tk_skip (Tk_seq (Tk_block (Tk_seq (Tk_region (Tops_step rfl (OpT_move rfl rfl rfl rfl) ?_)))))
      refine Tops_step rfl (OpT_assign rfl rfl rfl rfl) ?_
      refine Tops_nil (tZ [0, 2, 10, 12, 43, 44, 13] [0, 1, 2] [0] rfl rfl rfl rfl ?_)
      refine Tk_region (Tops_step rfl (OpT_move rfl rfl rfl rfl) ?_)
      refine Tops_step rfl (OpT_move rfl rfl rfl rfl) ?_
      obtain ⟨s1, hx4, h⟩ := ob_e h
      refine Tops_step rfl (OpT_idxO rfl rfl rfl rfl rfl slF22 (i := 2) rfl hx4) ?_
      refine Tops_step rfl (OpT_fieldR (S := SegS) rfl rfl rfl rfl fldF32x2 (i := 2) rfl hx4) ?_
      refine Tops_step rfl (OpT_storeOF (S := SegS) (u := (Seg.mk s1.At s1.Len false)) rfl rfl rfl rfl rfl tyF4 (i := 2) rfl hx4 rfl rfl rfl) ?_
      refine Tops_nil (tZ [0, 2, 10, 12, 43, 44] [0, 1, 2] [0] rfl rfl rfl rfl ?_)
      refine Tk_blk (Tk_region (Tops_step rfl (OpT_bin rfl rfl rfl rfl rfl (bin_add_i (a := x1) (b := (1 : Int)))) ?_))
      refine Tops_step rfl (OpT_move rfl rfl rfl rfl) ?_
      refine Tops_nil (tZ [0, 2, 10, 12, 43, 44] [0, 1, 2] [0] rfl rfl rfl rfl ?_)
      exact Tk_backS (l1.set x1.toNat (Seg.mk s1.At s1.Len false), wi (x1 + (1 : Int)), v2) h [0, 2, 10, 12, 43, 44] [0, 1, 2] [0] rfl rfl rfl rfl rfl
     ·replace h := br_f hg5 h
      refine Tk_condF (congrArg (fun b => some (Value.bool b)) hg5) ?_
      refine Tk_exit _ rfl ?_
      refine Tk_seq (Tk_region (Tops_step rfl (OpT_move rfl rfl rfl rfl) ?_))
      refine Tops_step rfl (OpT_move rfl rfl rfl rfl) ?_
      obtain ⟨gather1, hx5, h⟩ := ob_e h
      refine Tops_exP rfl (OpT_callB [2] [3, 4, 2, 5] (w_seg_Gather hx5) [0, 1] rfl rfl rfl rfl rfl callee54 rfl rfl rfl rfl rfl rfl (bor_cons (bor_shr 0 rfl) (bor_cons (bor_row 2 rfl rfl) bor_nil)) (by rintro _ _ _ ⟨_, rfl, rfl, rfl⟩; exact ⟨rfl, (ri_cons (ri_cells _ _ _) (ri_cons (ri_rows rfl _ _ _ _ _) (ri_cons (ri_row (S := u8S) rfl _ _) ri_nil)))⟩)) ?_
      rintro _ ⟨_, _, _, ⟨v3, rfl, rfl, rfl⟩, rfl⟩
      refine Tops_step rfl (OpT_move rfl rfl rfl rfl) ?_
      refine Tops_step rfl (OpT_extract rfl rfl rfl rfl rfl) ?_
      refine Tops_step rfl (OpT_extract rfl rfl rfl rfl rfl) ?_
      refine Tops_step rfl (OpT_assign rfl rfl rfl rfl) ?_
      refine Tops_step rfl (OpT_assign rfl rfl rfl rfl) ?_
      refine Tops_nil (tZ [2, 12, 14, 15] [0, 1, 3] [0] rfl rfl rfl rfl ?_)
      refine Tk_seq (Tk_seq (Tk_region (Tops_step rfl (OpT_move rfl rfl rfl rfl) ?_)))
      refine Tops_step rfl (OpT_bin rfl rfl rfl rfl rfl (bin_neq_i (a := gather1.2) (b := (0 : Int)))) ?_
      refine Tops_nil (tZ [2, 12, 14, 15, 59] [0, 1, 2] [0] rfl rfl rfl rfl ?_)
      rcases Bool.eq_false_or_eq_true (gather1.2 != (0 : Int)) with hg6 | hg6
      ·replace h := br_t hg6 h
       refine Tk_condT (congrArg (fun b => some (Value.bool b)) hg6) ?_
       refine Tk_seq (Tk_region (Tops_step rfl (OpT_move rfl rfl rfl rfl) ?_))
       refine Tops_step rfl (OpT_assign rfl rfl rfl rfl) ?_
       refine Tops_step rfl (OpT_assign rfl rfl rfl rfl) ?_
       refine Tops_step rfl (OpT_assign rfl rfl rfl rfl) ?_
       refine Tops_nil (tZ [6, 7, 8] [0, 1] [0] rfl rfl rfl rfl ?_)
       refine Tk_nilfact u8S ?_
       obtain rfl := Option.some.inj h
       exact Tk_retV rfl rfl (resA (vs := [.slice none 0 0, vU8 (0 : UInt8), vI gather1.2]) rfl ⟨rfl, rfl, rfl, trivial⟩) [0, 1] [1] rfl rfl rfl ⟨(.slice none 0 0), rfl, rfl, rfl⟩
      ·replace h := br_f hg6 h
       refine Tk_condF (congrArg (fun b => some (Value.bool b)) hg6) ?_
       refine Tk_skip (Tk_seq (Tk_region (Tops_step rfl (OpT_move rfl rfl rfl rfl) ?_)))
       refine Tops_step rfl (OpT_move rfl rfl rfl rfl) ?_
       refine Tops_step rfl (OpT_bin rfl rfl rfl rfl rfl (bin_sub_u64 (a := total1.2) (b := (1 : UInt64)))) ?_
       obtain ⟨y1, hx6, h⟩ := ob_e h
       refine Tops_step rfl (OpT_idxO rfl rfl rfl rfl rfl slF35 (i := 2) rfl hx6) ?_
       refine Tops_step rfl (OpT_loadO (S := u8S) rfl rfl rfl rfl rfl tyF5 (i := 2) rfl hx6 rfl rfl) ?_
       refine Tops_step rfl (OpT_assign rfl rfl rfl rfl) ?_
       refine Tops_nil (tZ [2, 14, 16] [0, 1, 2] [0] rfl rfl rfl rfl ?_)
       refine Tk_seq (Tk_seq (Tk_region (Tops_step rfl (OpT_move rfl rfl rfl rfl) ?_)))
       refine Tops_step rfl (OpT_bin rfl rfl rfl rfl rfl (bin_neq_u8 (a := y1) (b := (0 : UInt8)))) ?_
       refine Tops_nil (tZ [2, 14, 16, 67] [0, 1, 2] [0] rfl rfl rfl rfl ?_)
       rcases Bool.eq_false_or_eq_true (y1 != (0 : UInt8)) with hg7 | hg7
       ·replace h := br_t hg7 h
        refine Tk_condT (congrArg (fun b => some (Value.bool b)) hg7) ?_
        refine Tk_seq (Tk_region (Tops_step rfl (OpT_move rfl rfl rfl rfl) ?_))
        refine Tops_step rfl (OpT_assign rfl rfl rfl rfl) ?_
        refine Tops_step rfl (OpT_assign rfl rfl rfl rfl) ?_
        refine Tops_step rfl (OpT_assign rfl rfl rfl rfl) ?_
        refine Tops_nil (tZ [6, 7, 8] [0, 1] [0] rfl rfl rfl rfl ?_)
        refine Tk_nilfact u8S ?_
        obtain rfl := Option.some.inj h
        exact Tk_retV rfl rfl (resA (vs := [.slice none 0 0, vU8 y1, vI (0 : Int)]) rfl ⟨rfl, rfl, rfl, trivial⟩) [0, 1] [1] rfl rfl rfl ⟨(.slice none 0 0), rfl, rfl, rfl⟩
       ·replace h := br_f hg7 h
        refine Tk_condF (congrArg (fun b => some (Value.bool b)) hg7) ?_
        refine Tk_skip (Tk_seq (Tk_region (Tops_step rfl (OpT_move rfl rfl rfl rfl) ?_)))
        refine Tops_step rfl (OpT_move rfl rfl rfl rfl) ?_
        refine Tops_step rfl (OpT_bin rfl rfl rfl rfl rfl (bin_sub_u32 (a := written) (b := (1 : UInt32)))) ?_
        refine Tops_step rfl (OpT_move rfl rfl rfl rfl) ?_
        refine Tops_step rfl (OpT_bin rfl rfl rfl rfl rfl (bin_sub_u32 (a := written) (b := (1 : UInt32)))) ?_
        refine Tops_retire (i := 2) rfl ?_
        obtain ⟨hc1, h⟩ := chk_e h
        refine Tops_ex rfl (OpT_sliceHM (m := ((written - (1 : UInt32)).toNat : Int)) (q := ((written - (1 : UInt32)).toNat : Int)) rfl rfl rfl rfl rfl rfl slF35 (i := 1) rfl hc1) fun v4 => ?_
        refine Tops_step rfl (OpT_move rfl rfl rfl rfl) ?_
        refine Tops_step rfl (OpT_assign rfl rfl rfl rfl) ?_
        refine Tops_step rfl (OpT_assign rfl rfl rfl rfl) ?_
        refine Tops_step rfl (OpT_assign rfl rfl rfl rfl) ?_
        refine Tops_nil (tZ [6, 7, 8] [0, 1] [0, 2] rfl rfl rfl rfl ?_)
        obtain rfl := Option.some.inj h
        exact Tk_retV rfl rfl (resA (vs := [v4, vU8 y1, vI (0 : Int)]) rfl ⟨rfl, rfl, rfl, trivial⟩) [0, 1] [1] rfl rfl rfl ⟨v4, rfl, rfl, rfl⟩

set_option maxRecDepth 100000 in
set_option maxHeartbeats 4000000 in
theorem w_blkdrv_Size {rp0 : Req} {vrp01 : Value} {vrp02 : Value} {r : (Int × Int)} (h : blkdrv_Size rp0 = some r) :
  Ctr Try.prog 14 #[.agg #[vU32 rp0.Type_, vU64 rp0.Sector, vrp01, vI rp0.Room, vrp02]] [] [Fact.sl u8S vrp01 rp0.Data, Fact.sl RangeS vrp02 rp0.Ranges]
   (fun rv own shr => rv = .tuple #[vI r.1, vI r.2] ∧ own = [] ∧ shr = []) := by
 unfold blkdrv_Size at h
 refine Ctr.mk (args := [.agg #[vU32 rp0.Type_, vU64 rp0.Sector, vrp01, vI rp0.Room, vrp02]]) Try.func14 rfl rfl (fun R0 w0 B => ?_)
 refine Tk_seq (Tk_region (Tops_ex rfl (OpT_box rfl rfl rfl rfl) fun b1 => ?_))
 refine Tops_step rfl (OpT_assign rfl rfl rfl rfl) ?_
 refine Tops_step rfl (OpT_assign rfl rfl rfl rfl) ?_
 refine Tops_nil (tZ [1] [0] [0, 1] rfl rfl rfl rfl ?_)
 refine Tk_seq (Tk_region (Tops_step rfl (OpT_loadCA (vs := [vU32 rp0.Type_, vU64 rp0.Sector, vrp01, vI rp0.Room, vrp02]) rfl rfl rfl rfl tyF38 (i := 0) rfl rfl rfl) ?_))
 obtain ⟨bytes1, hx1, h⟩ := ob_e h
 refine Tops_exP rfl (OpT_call (w_blk_Bytes hx1) [] [0, 1] rfl rfl rfl rfl rfl callee42 rfl rfl rfl rfl) ?_
 rintro _ ⟨_, _, _, ⟨v1, rfl, rfl, rfl⟩, rfl⟩
 refine Tops_step rfl (OpT_move rfl rfl rfl rfl) ?_
 refine Tops_step rfl (OpT_extract rfl rfl rfl rfl rfl) ?_
 refine Tops_step rfl (OpT_extract rfl rfl rfl rfl rfl) ?_
 refine Tops_step rfl (OpT_assign rfl rfl rfl rfl) ?_
 refine Tops_step rfl (OpT_assign rfl rfl rfl rfl) ?_
 refine Tops_nil (tZ [1, 4, 5] [0, 1] [0, 1] rfl rfl rfl rfl ?_)
 refine Tk_seq (Tk_seq (Tk_region (Tops_step rfl (OpT_move rfl rfl rfl rfl) ?_)))
 refine Tops_step rfl (OpT_bin rfl rfl rfl rfl rfl (bin_neq_i (a := bytes1.2) (b := (0 : Int)))) ?_
 refine Tops_nil (tZ [1, 4, 5, 12] [0, 1] [0, 1] rfl rfl rfl rfl ?_)
 rcases Bool.eq_false_or_eq_true (bytes1.2 != (0 : Int)) with hg1 | hg1
 ·replace h := br_t hg1 h
  refine Tk_condT (congrArg (fun b => some (Value.bool b)) hg1) ?_
  refine Tk_seq (Tk_region (Tops_step rfl (OpT_move rfl rfl rfl rfl) ?_))
  refine Tops_step rfl (OpT_assign rfl rfl rfl rfl) ?_
  refine Tops_step rfl (OpT_assign rfl rfl rfl rfl) ?_
  refine Tops_nil (tZ [2, 3] [] [] rfl rfl rfl rfl ?_)
  obtain rfl := Option.some.inj h
  exact Tk_retV rfl rfl (resA (vs := [vI (0 : Int), vI bytes1.2]) rfl ⟨rfl, rfl, trivial⟩) [] [] rfl rfl rfl ⟨rfl, rfl, rfl⟩
 ·replace h := br_f hg1 h
  refine Tk_condF (congrArg (fun b => some (Value.bool b)) hg1) ?_
  refine Tk_skip (Tk_seq (Tk_region (Tops_step rfl (OpT_move rfl rfl rfl rfl) ?_)))
  refine Tops_step rfl (OpT_lenO rfl rfl rfl rfl Try.underlying35 (i := 1) rfl) ?_
  refine Tops_step rfl (OpT_fieldC rfl rfl rfl rfl fldF38x3) ?_
  refine Tops_step rfl (OpT_loadC rfl rfl rfl rfl tyF3 (i := 0) rfl rfl) ?_
  refine Tops_step rfl (OpT_bin rfl rfl rfl rfl rfl (bin_add_i (a := len bytes1.1) (b := rp0.Room))) ?_
  refine Tops_step rfl (OpT_bin rfl rfl rfl rfl rfl (bin_add_i (a := wi ((len bytes1.1) + rp0.Room)) (b := (1 : Int)))) ?_
  refine Tops_step rfl (OpT_assign rfl rfl rfl rfl) ?_
  refine Tops_step rfl (OpT_assign rfl rfl rfl rfl) ?_
  refine Tops_nil (tZ [2, 3] [] [] rfl rfl rfl rfl ?_)
  obtain rfl := Option.some.inj h
  exact Tk_retV rfl rfl (resA (vs := [vI (wi ((wi ((len bytes1.1) + rp0.Room)) + (1 : Int))), vI (0 : Int)]) rfl ⟨rfl, rfl, trivial⟩) [] [] rfl rfl rfl ⟨rfl, rfl, rfl⟩

set_option maxRecDepth 100000 in
set_option maxHeartbeats 4000000 in
theorem w_blkdrv_Config {np0 : Int} {r : (List UInt8)} (h : blkdrv_Config np0 = some r) :
  Ctr Try.prog 25 #[vI np0] [] []
   (fun rv own shr => ∃ (w1 : Value), rv = w1 ∧ own = [(rowS u8S w1 r)] ∧ shr = []) := by
 unfold blkdrv_Config at h
 refine Ctr.mk (args := [vI np0]) Try.func25 rfl rfl (fun R0 w0 B => ?_)
 refine Tk_seq (Tk_region (Tops_step rfl (OpT_assign rfl rfl rfl rfl) ?_))
 refine Tops_nil (tZ [0] [] [] rfl rfl rfl rfl ?_)
 refine Tk_seq (Tk_region (Tops_step rfl (OpT_assign rfl rfl rfl rfl) ?_))
 refine Tops_nil (Tk_seq (Tk_seq (Tk_region (Tops_step rfl (OpT_move rfl rfl rfl rfl) ?_))))
 refine Tops_step rfl (OpT_max_i (u := np0) (v := (0 : Int)) rfl rfl rfl rfl rfl) ?_
 refine Tops_step rfl (OpT_cnv rfl rfl rfl rfl (cnv_i_u64 (n := maxi np0 (0 : Int)) Try.underlying3 Try.underlying29)) ?_
 refine Tops_step rfl (OpT_assign rfl rfl rfl rfl) ?_
 refine Tops_step rfl (OpT_assign rfl rfl rfl rfl) ?_
 refine Tops_nil (tZ [3, 4, 5] [] [] rfl rfl rfl rfl ?_)
 refine Tk_block (Tk_nilrow u8S ?_)
 refine Tk_loopS (σ := (List UInt8) × Int × UInt64 × Value) [3, 4, 5] [0] [] (fun s => ⟨[(3, some (s.2.2.2)), (4, some (vI s.2.1)), (5, some (vU64 s.2.2.1))], [some (rowS u8S s.2.2.2 s.1)], []⟩) (fun nf1 s => blkdrv_ConfigL1 nf1 s.1 s.2.1 s.2.2.1 = some r) fuel ([], (0 : Int), u64 (maxi np0 (0 : Int)), (.slice none 0 0)) h rfl rfl rfl rfl rfl (fun s h => by cases h) ?_
 rintro nf1 ⟨b1, i1, v2, v1⟩ h
 replace h : blkdrv_ConfigL1B (blkdrv_ConfigL1 nf1) b1 i1 v2 = some r := h
 unfold blkdrv_ConfigL1B at h
 refine Tk_seq (Tk_seq (Tk_region (Tops_step rfl (OpT_move rfl rfl rfl rfl) ?_)))
 refine Tops_step rfl (OpT_bin rfl rfl rfl rfl rfl (bin_lss_i (a := i1) (b := (8 : Int)))) ?_
 refine Tops_nil (tZ [3, 4, 5, 10] [0] [] rfl rfl rfl rfl ?_)
 rcases Bool.eq_false_or_eq_true (decide (i1 < (8 : Int))) with hg1 | hg1
 ·replace h := br_t hg1 h
  refine Tk_condT (congrArg (fun b => some (Value.bool b)) hg1) ?_
  refine Tk_skip (Tk_seq (Tk_block (Tk_region (Tops_step rfl (OpT_move rfl rfl rfl rfl) ?_))))
  refine Tops_step rfl (OpT_move rfl rfl rfl rfl) ?_
  refine Tops_step rfl (OpT_cnv rfl rfl rfl rfl (cnv_u64_u8 (n := v2) Try.underlying29 Try.underlying5)) ?_
  refine Tops_ex rfl (OpT_buildSlice (S := u8S) (xs := [v2.toUInt8]) (css := [[vU8 v2.toUInt8]]) (cs := [vU8 v2.toUInt8]) (e := 5) rfl rfl rfl rfl (bldF slF35 (by decide) (by kernel_rfl)) rfl rfl rfl rfl (rel_plainD (S := u8S) (xs := [v2.toUInt8]) (css := [[vU8 v2.toUInt8]]) rfl rfl)) fun v3 => ?_
  obtain ⟨hc1, h⟩ := chk_e h
  refine Tops_ex rfl (OpT_appendB (S := u8S) rfl rfl rfl rfl rfl rfl slF35 (i := 0) (j := 1) rfl rfl hc1) fun v4 => ?_
  refine Tops_step rfl (OpT_assign rfl rfl rfl rfl) ?_
  refine Tops_nil (tZ [3, 4, 5] [0] [] rfl rfl rfl rfl ?_)
  refine Tk_blk (Tk_region (Tops_step rfl (OpT_move rfl rfl rfl rfl) ?_))
  refine Tops_step rfl (OpT_bin rfl rfl rfl rfl rfl (bin_add_i (a := i1) (b := (1 : Int)))) ?_
  refine Tops_step rfl (OpT_move rfl rfl rfl rfl) ?_
  refine Tops_step rfl (OpT_bin rfl rfl rfl rfl rfl (bin_shr_u64_u64 (a := v2) (n := (8 : UInt64)))) ?_
  refine Tops_step rfl (OpT_assign rfl rfl rfl rfl) ?_
  refine Tops_step rfl (OpT_assign rfl rfl rfl rfl) ?_
  refine Tops_nil (tZ [3, 4, 5] [0] [] rfl rfl rfl rfl ?_)
  exact Tk_backS (b1 ++ [v2.toUInt8], wi (i1 + (1 : Int)), shr64 v2 ((8 : UInt64).toNat), v4) h [3, 4, 5] [0] [] rfl rfl rfl rfl rfl
 ·replace h := br_f hg1 h
  refine Tk_condF (congrArg (fun b => some (Value.bool b)) hg1) ?_
  refine Tk_exit _ rfl ?_
  refine Tk_seq (Tk_region (Tops_step rfl (OpT_move rfl rfl rfl rfl) ?_))
  refine Tops_step rfl (OpT_assign rfl rfl rfl rfl) ?_
  refine Tops_nil (tZ [2] [0] [] rfl rfl rfl rfl ?_)
  obtain rfl := Option.some.inj h
  exact Tk_retV rfl rfl (resA (vs := [v1]) rfl ⟨rfl, trivial⟩) [0] [] rfl rfl rfl ⟨v1, rfl, rfl, rfl⟩

set_option maxRecDepth 100000 in
set_option maxHeartbeats 4000000 in
theorem w_blkdrv_Capacity {config : List UInt8} {vconfig1 : Value} {r : UInt64} (h : blkdrv_Capacity config = some r) :
  Ctr Try.prog 24 #[vconfig1] [] [Fact.sl u8S vconfig1 config]
   (fun rv own shr => rv = vU64 r ∧ own = [] ∧ shr = []) := by
 unfold blkdrv_Capacity at h
 refine Ctr.mk (args := [vconfig1]) Try.func24 rfl rfl (fun R0 w0 B => ?_)
 refine Tk_seq (Tk_region (Tops_step rfl (OpT_assign rfl rfl rfl rfl) ?_))
 refine Tops_nil (tZ [0] [] [0] rfl rfl rfl rfl ?_)
 refine Tk_seq (Tk_seq (Tk_region (Tops_step rfl (OpT_move rfl rfl rfl rfl) ?_)))
 refine Tops_step rfl (OpT_lenS rfl rfl rfl rfl Try.underlying35 (i := 0) rfl) ?_
 refine Tops_step rfl (OpT_bin rfl rfl rfl rfl rfl (bin_lss_i (a := len config) (b := (8 : Int)))) ?_
 refine Tops_nil (tZ [0, 7] [] [0] rfl rfl rfl rfl ?_)
 rcases Bool.eq_false_or_eq_true (decide ((len config) < (8 : Int))) with hg1 | hg1
 ·replace h := br_t hg1 h
  refine Tk_condT (congrArg (fun b => some (Value.bool b)) hg1) ?_
  refine Tk_seq (Tk_region (Tops_step rfl (OpT_assign rfl rfl rfl rfl) ?_))
  refine Tops_nil (tZ [2] [] [] rfl rfl rfl rfl ?_)
  obtain rfl := Option.some.inj h
  exact Tk_retV rfl rfl (resA (vs := [vU64 (0 : UInt64)]) rfl ⟨rfl, trivial⟩) [] [] rfl rfl rfl ⟨rfl, rfl, rfl⟩
 ·replace h := br_f hg1 h
  refine Tk_condF (congrArg (fun b => some (Value.bool b)) hg1) ?_
  refine Tk_skip (Tk_seq (Tk_region (Tops_step rfl (OpT_assign rfl rfl rfl rfl) ?_)))
  refine Tops_nil (tZ [0, 3] [] [0] rfl rfl rfl rfl ?_)
  refine Tk_seq (Tk_seq (Tk_region (Tops_step rfl (OpT_assign rfl rfl rfl rfl) ?_)))
  refine Tops_nil (Tk_block (Tk_loopS (σ := UInt64 × Int) [0, 3, 4] [] [0] (fun s => ⟨[(0, some (vconfig1)), (3, some (vU64 s.1)), (4, some (vI s.2))], [], [Fact.sl u8S vconfig1 config]⟩) (fun nf1 s => blkdrv_CapacityL1 config nf1 s.1 s.2 = some r) fuel ((0 : UInt64), (7 : Int)) h rfl rfl rfl rfl rfl (fun s h => by cases h) ?_))
  rintro nf1 ⟨n1, i1⟩ h
  replace h : blkdrv_CapacityL1B config (blkdrv_CapacityL1 config nf1) n1 i1 = some r := h
  unfold blkdrv_CapacityL1B at h
  refine Tk_seq (Tk_seq (Tk_region (Tops_step rfl (OpT_move rfl rfl rfl rfl) ?_)))
  refine Tops_step rfl (OpT_bin rfl rfl rfl rfl rfl (bin_geq_i (a := i1) (b := (0 : Int)))) ?_
  refine Tops_nil (tZ [0, 3, 4, 9] [] [0] rfl rfl rfl rfl ?_)
  rcases Bool.eq_false_or_eq_true (decide (i1 ≥ (0 : Int))) with hg2 | hg2
  ·replace h := br_t hg2 h
   refine Tk_condT (congrArg (fun b => some (Value.bool b)) hg2) ?_
   refine Tk_skip (Tk_seq (Tk_block (Tk_region (Tops_step rfl (OpT_move rfl rfl rfl rfl) ?_))))
   refine Tops_step rfl (OpT_bin rfl rfl rfl rfl rfl (bin_shl_u64_u64 (a := n1) (n := (8 : UInt64)))) ?_
   refine Tops_step rfl (OpT_move rfl rfl rfl rfl) ?_
   refine Tops_step rfl (OpT_move rfl rfl rfl rfl) ?_
   obtain ⟨y1, hx1, h⟩ := ob_e h
   refine Tops_ex rfl (OpT_idxS rfl rfl rfl rfl rfl slF35 (i := 0) rfl hx1) fun p1 => ?_
   refine Tops_step rfl (OpT_loadP rfl rfl rfl rfl tyF5 (i := 1) rfl rfl) ?_
   refine Tops_step rfl (OpT_cnv rfl rfl rfl rfl (cnv_u8_u64 (n := y1) Try.underlying5 Try.underlying29)) ?_
   refine Tops_step rfl (OpT_bin rfl rfl rfl rfl rfl (bin_or_u64 (a := shl64 n1 ((8 : UInt64).toNat)) (b := y1.toUInt64))) ?_
   refine Tops_step rfl (OpT_assign rfl rfl rfl rfl) ?_
   refine Tops_nil (tZ [0, 3, 4] [] [0] rfl rfl rfl rfl ?_)
   refine Tk_blk (Tk_region (Tops_step rfl (OpT_move rfl rfl rfl rfl) ?_))
   refine Tops_step rfl (OpT_bin rfl rfl rfl rfl rfl (bin_sub_i (a := i1) (b := (1 : Int)))) ?_
   refine Tops_step rfl (OpT_assign rfl rfl rfl rfl) ?_
   refine Tops_nil (tZ [0, 3, 4] [] [0] rfl rfl rfl rfl ?_)
   exact Tk_backS ((shl64 n1 ((8 : UInt64).toNat)) ||| y1.toUInt64, wi (i1 - (1 : Int))) h [0, 3, 4] [] [0] rfl rfl rfl rfl rfl
  ·replace h := br_f hg2 h
   refine Tk_condF (congrArg (fun b => some (Value.bool b)) hg2) ?_
   refine Tk_exit _ rfl ?_
   refine Tk_seq (Tk_region (Tops_step rfl (OpT_move rfl rfl rfl rfl) ?_))
   refine Tops_step rfl (OpT_assign rfl rfl rfl rfl) ?_
   refine Tops_nil (tZ [2] [] [] rfl rfl rfl rfl ?_)
   obtain rfl := Option.some.inj h
   exact Tk_retV rfl rfl (resA (vs := [vU64 n1]) rfl ⟨rfl, trivial⟩) [] [] rfl rfl rfl ⟨rfl, rfl, rfl⟩

set_option maxRecDepth 100000 in
set_option maxHeartbeats 4000000 in
theorem w_kit_SameSegs {ap0 : List Seg} {b : List Seg} {vap01 : Value} {vb1 : Value} {r : Bool} (h : kit_SameSegs ap0 b = some r) :
  Ctr Try.prog 12 #[vap01, vb1] [] [Fact.sl SegS vap01 ap0, Fact.sl SegS vb1 b]
   (fun rv own shr => rv = vB r ∧ own = [] ∧ shr = []) := by
 unfold kit_SameSegs at h
 refine Ctr.mk (args := [vap01, vb1]) Try.func12 rfl rfl (fun R0 w0 B => ?_)
 refine Tk_seq (Tk_region (Tops_step rfl (OpT_assign rfl rfl rfl rfl) ?_))
 refine Tops_nil (tZ [0, 1] [] [0, 1] rfl rfl rfl rfl ?_)
 refine Tk_seq (Tk_seq (Tk_region (Tops_step rfl (OpT_move rfl rfl rfl rfl) ?_)))
 refine Tops_step rfl (OpT_lenS rfl rfl rfl rfl Try.underlying22 (i := 0) rfl) ?_
 refine Tops_step rfl (OpT_move rfl rfl rfl rfl) ?_
 refine Tops_step rfl (OpT_lenS rfl rfl rfl rfl Try.underlying22 (i := 1) rfl) ?_
 refine Tops_step rfl (OpT_bin rfl rfl rfl rfl rfl (bin_neq_i (a := len ap0) (b := len b))) ?_
 refine Tops_nil (tZ [0, 1, 10] [] [0, 1] rfl rfl rfl rfl ?_)
 rcases Bool.eq_false_or_eq_true ((len ap0) != (len b)) with hg1 | hg1
 ·replace h := br_t hg1 h
  refine Tk_condT (congrArg (fun b => some (Value.bool b)) hg1) ?_
  refine Tk_seq (Tk_region (Tops_step rfl (OpT_assign rfl rfl rfl rfl) ?_))
  refine Tops_nil (tZ [4] [] [] rfl rfl rfl rfl ?_)
  obtain rfl := Option.some.inj h
  exact Tk_retV rfl rfl (resA (vs := [vB false]) rfl ⟨rfl, trivial⟩) [] [] rfl rfl rfl ⟨rfl, rfl, rfl⟩
 ·replace h := br_f hg1 h
  refine Tk_condF (congrArg (fun b => some (Value.bool b)) hg1) ?_
  refine Tk_skip (Tk_seq (Tk_seq (Tk_region (Tops_step rfl (OpT_assign rfl rfl rfl rfl) ?_))))
  refine Tops_nil (tZ [0, 1, 5] [] [0, 1] rfl rfl rfl rfl ?_)
  refine Tk_block (Tk_loopS (σ := Int) [0, 1, 5] [] [0, 1] (fun s => ⟨[(0, some (vap01)), (1, some (vb1)), (5, some (vI s))], [], [Fact.sl SegS vap01 ap0, Fact.sl SegS vb1 b]⟩) (fun nf1 s => kit_SameSegsL1 ap0 b nf1 s = some r) fuel (0 : Int) h rfl rfl rfl rfl rfl (fun s h => by cases h) ?_)
  rintro nf1 i1 h
  replace h : kit_SameSegsL1B ap0 b (kit_SameSegsL1 ap0 b nf1) i1 = some r := h
  unfold kit_SameSegsL1B at h
  refine Tk_seq (Tk_seq (Tk_region (Tops_step rfl (OpT_move rfl rfl rfl rfl) ?_)))
  refine Tops_step rfl (OpT_move rfl rfl rfl rfl) ?_
  refine Tops_step rfl (OpT_lenS rfl rfl rfl rfl Try.underlying22 (i := 0) rfl) ?_
  refine Tops_step rfl (OpT_bin rfl rfl rfl rfl rfl (bin_lss_i (a := i1) (b := len ap0))) ?_
  refine Tops_nil (tZ [0, 1, 5, 14] [] [0, 1] rfl rfl rfl rfl ?_)
  rcases Bool.eq_false_or_eq_true (decide (i1 < (len ap0))) with hg2 | hg2
  ·replace h := br_t hg2 h
   refine Tk_condT (congrArg (fun b => some (Value.bool b)) hg2) ?_
   refine Tk_skip (Tk_seq (Tk_block (Tk_seq (Tk_drawT (by kernel_rfl) ?_))))
   refine TA_tb [0, 0, 3, 7, 0, 0, 48, 112, 255] (by kernel_rfl) fun htb => ?_
   refine aZ [0, 1, 5] [] [0, 1] rfl rfl rfl rfl ?_
   obtain ⟨s1, hx1, h⟩ := ob_e h
   obtain ⟨s2, hx2, h⟩ := ob_e h
   refine TA_seg (lo := 0) (hi := 8) htb rfl rfl (by kernel_rfl) (fun c L a w => ∃ (p1 : Value), ∃ (p2 : Value), Sat c ⟨[(0, some (vap01)), (1, some (vb1)), (5, some (vI i1)), (17, bif L 0 then some (vap01) else none), (18, bif L 1 then some (vI i1) else none), (19, bif L 2 then some (p1) else none), (20, bif L 3 then some (.agg #[vU64 s1.At, vU32 s1.Len, vB s1.Write]) else none), (21, bif L 4 then some (vb1) else none), (22, bif L 5 then some (vI i1) else none), (23, bif L 6 then some (p2) else none), (24, bif L 7 then some (.agg #[vU64 s2.At, vU32 s2.Len, vB s2.Write]) else none)], [], [Fact.sl SegS vap01 ap0, Fact.sl SegS vb1 b, (bif L 2 then Fact.pt SegS p1 s1 else Fact.tt), (bif L 6 then Fact.pt SegS p2 s2 else Fact.tt)]⟩ a w) [([], [2, 3]), ([], [2, 3]), ([0, 1], [3]), ([0, 1, 2], []), ([], [6, 7]), ([], [6, 7]), ([4, 5], [7]), ([4, 5, 6], [])] rfl (by kernel_rfl) ?_ (steps_cons ?_ (steps_cons ?_ (steps_cons ?_ (steps_cons ?_ (steps_cons ?_ (steps_cons ?_ (steps_cons ?_ (steps_cons ?_ (steps_nil))))))))) ?_
   ·intro a w hs
    exact ⟨undef, undef, hs.startF [17, 18, 19, 20, 21, 22, 23, 24] [] [0, 1, 2, 3] rfl rfl rfl rfl⟩
   ·intro L a w hv K Q hK
    obtain ⟨p1, p2, hs⟩ := hv
    refine wpOp_go rfl rfl hs (OpT_move rfl rfl rfl rfl) ?_
    rintro _ rfl a' w' hs'
    exact hK a' w' ⟨p1, p2, hs'.putF (i := 3) rfl [] [0, 1, 2, 3] rfl rfl rfl rfl⟩
   ·intro L a w hv K Q hK
    obtain ⟨p1, p2, hs⟩ := hv
    refine wpOp_go rfl rfl hs (OpT_move rfl rfl rfl rfl) ?_
    rintro _ rfl a' w' hs'
    exact hK a' w' ⟨p1, p2, hs'.putF (i := 4) rfl [] [0, 1, 2, 3] rfl rfl rfl rfl⟩
   ·intro L a w hv K Q hK
    obtain ⟨p1, p2, hs⟩ := hv
    refine wpOp_go rfl rfl hs (OpT_idxS rfl rfl rfl rfl rfl slF22 (i := 0) rfl hx1) ?_
    rintro _ ⟨p1', rfl⟩ a' w' hs'
    exact hK a' w' ⟨p1', p2, hs'.putF (i := 5) rfl [] [0, 1, 4, 3] rfl rfl rfl rfl⟩
   ·intro L a w hv K Q hK
    obtain ⟨p1, p2, hs⟩ := hv
    refine wpOp_go rfl rfl hs (OpT_loadPA (vs := [vU64 s1.At, vU32 s1.Len, vB s1.Write]) rfl rfl rfl rfl tyF32 (i := 2) rfl rfl) ?_
    rintro _ rfl a' w' hs'
    exact hK a' w' ⟨p1, p2, hs'.putF (i := 6) rfl [] [0, 1, 2, 3] rfl rfl rfl rfl⟩
   ·intro L a w hv K Q hK
    obtain ⟨p1, p2, hs⟩ := hv
    refine wpOp_go rfl rfl hs (OpT_move rfl rfl rfl rfl) ?_
    rintro _ rfl a' w' hs'
    exact hK a' w' ⟨p1, p2, hs'.putF (i := 7) rfl [] [0, 1, 2, 3] rfl rfl rfl rfl⟩
   ·intro L a w hv K Q hK
    obtain ⟨p1, p2, hs⟩ := hv
    refine wpOp_go rfl rfl hs (OpT_move rfl rfl rfl rfl) ?_
    rintro _ rfl a' w' hs'
    exact hK a' w' ⟨p1, p2, hs'.putF (i := 8) rfl [] [0, 1, 2, 3] rfl rfl rfl rfl⟩
   ·intro L a w hv K Q hK
    obtain ⟨p1, p2, hs⟩ := hv
    refine wpOp_go rfl rfl hs (OpT_idxS rfl rfl rfl rfl rfl slF22 (i := 1) rfl hx2) ?_
    rintro _ ⟨p2', rfl⟩ a' w' hs'
    exact hK a' w' ⟨p1, p2', hs'.putF (i := 9) rfl [] [0, 1, 2, 4] rfl rfl rfl rfl⟩
   ·intro L a w hv K Q hK
    obtain ⟨p1, p2, hs⟩ := hv
    refine wpOp_go rfl rfl hs (OpT_loadPA (vs := [vU64 s2.At, vU32 s2.Len, vB s2.Write]) rfl rfl rfl rfl tyF32 (i := 3) rfl rfl) ?_
    rintro _ rfl a' w' hs'
    exact hK a' w' ⟨p1, p2, hs'.putF (i := 10) rfl [] [0, 1, 2, 3] rfl rfl rfl rfl⟩
   ·intro L a w hL hv
    rw [allTrue hL] at hv
    obtain ⟨p1, p2, hs⟩ := hv
    refine gZ hs [0, 1, 5, 20, 24] [] [0, 1] rfl rfl rfl rfl ?_
    clear hs hL
    refine TA_step htb (by kernel_rfl) rfl rfl (OpT_bin rfl rfl rfl rfl rfl (eqT32_neq s1 s2)) ?_
    refine TA_end rfl ?_
    refine tZ [0, 1, 5, 25] [] [0, 1] rfl rfl rfl rfl ?_
    rcases Bool.eq_false_or_eq_true (s1 != s2) with hg3 | hg3
    ·replace h := br_t hg3 h
     refine Tk_condT (congrArg (fun b => some (Value.bool b)) hg3) ?_
     refine Tk_seq (Tk_region (Tops_step rfl (OpT_assign rfl rfl rfl rfl) ?_))
     refine Tops_nil (tZ [4] [] [] rfl rfl rfl rfl ?_)
     obtain rfl := Option.some.inj h
     exact Tk_retV rfl rfl (resA (vs := [vB false]) rfl ⟨rfl, trivial⟩) [] [] rfl rfl rfl ⟨rfl, rfl, rfl⟩
    ·replace h := br_f hg3 h
     refine Tk_condF (congrArg (fun b => some (Value.bool b)) hg3) ?_
     refine Tk_skip (Tk_blk (Tk_region (Tops_step rfl (OpT_move rfl rfl rfl rfl) ?_)))
     refine Tops_step rfl (OpT_bin rfl rfl rfl rfl rfl (bin_add_i (a := i1) (b := (1 : Int)))) ?_
     refine Tops_step rfl (OpT_assign rfl rfl rfl rfl) ?_
     refine Tops_nil (tZ [0, 1, 5] [] [0, 1] rfl rfl rfl rfl ?_)
     exact Tk_backS (wi (i1 + (1 : Int))) h [0, 1, 5] [] [0, 1] rfl rfl rfl rfl rfl
  ·replace h := br_f hg2 h
   refine Tk_condF (congrArg (fun b => some (Value.bool b)) hg2) ?_
   refine Tk_exit _ rfl ?_
   refine Tk_seq (Tk_region (Tops_step rfl (OpT_assign rfl rfl rfl rfl) ?_))
   refine Tops_nil (tZ [4] [] [] rfl rfl rfl rfl ?_)
   obtain rfl := Option.some.inj h
   exact Tk_retV rfl rfl (resA (vs := [vB true]) rfl ⟨rfl, trivial⟩) [] [] rfl rfl rfl ⟨rfl, rfl, rfl⟩

set_option maxRecDepth 100000 in
set_option maxHeartbeats 4000000 in
theorem w_law22zlives  {r : Bool} (h : law22zlives = some r) :
  Ctr Try.prog 8 #[] [] []
   (fun rv own shr => rv = vB r ∧ own = [] ∧ shr = []) := by
 unfold law22zlives at h
 refine Ctr.mk (args := []) Try.func8 rfl rfl (fun R0 w0 B => ?_)
 refine Tk_seq (Tk_region (Tops_step rfl (OpT_assign rfl rfl rfl rfl) ?_))
 refine Tops_nil (tZ [] [] [] rfl rfl rfl rfl ?_)
 refine Tk_seq (Tk_region (Tops_step rfl (OpT_build (v := .agg #[vU64 (0 : UInt64), vU64 (4096 : UInt64)]) rfl rfl rfl rfl (bldV (by kernel_rfl))) ?_))
 refine Tops_ex rfl (OpT_buildSlice (S := RegionS) (xs := [(Region.mk (0 : UInt64) (4096 : UInt64))]) (css := [[vU64 (0 : UInt64), vU64 (4096 : UInt64)]]) (cs := [vU64 (0 : UInt64), vU64 (4096 : UInt64)]) (e := 57) rfl rfl rfl rfl (bldF slF45 (by decide) (by kernel_rfl)) rfl rfl rfl rfl (rel_plainD (S := RegionS) (xs := [(Region.mk (0 : UInt64) (4096 : UInt64))]) (css := [[vU64 (0 : UInt64), vU64 (4096 : UInt64)]]) rfl rfl)) fun v1 => ?_
 refine Tops_retire (i := 0) rfl ?_
 obtain ⟨new1, hx1, h⟩ := ob_e h
 refine Tops_exP rfl (OpT_call (w_gmem_New hx1) [] [0] rfl rfl rfl rfl rfl callee15 rfl rfl rfl rfl) ?_
 rintro _ ⟨_, _, _, ⟨v2, rfl, rfl, rfl⟩, rfl⟩
 refine Tops_step rfl (OpT_move rfl rfl rfl rfl) ?_
 refine Tops_step rfl (OpT_extract rfl rfl rfl rfl rfl) ?_
 refine Tops_step rfl (OpT_extract rfl rfl rfl rfl rfl) ?_
 refine Tops_step rfl (OpT_assign rfl rfl rfl rfl) ?_
 refine Tops_step rfl (OpT_assign rfl rfl rfl rfl) ?_
 refine Tops_nil (tZ [1, 2] [1] [] rfl rfl rfl rfl ?_)
 rcases onO_cases h with ⟨ho1, h⟩ | ⟨mem1, ho1, h⟩
 ·cases h
 ·refine Tk_optS (i := 0) rfl ho1 ?_
  rintro b1 v3 v4 vs1 rfl
  refine Tk_seq (Tk_seq (Tk_region (Tops_step rfl (OpT_move rfl rfl rfl rfl) ?_)))
  refine Tops_step rfl (OpT_bin rfl rfl rfl rfl rfl (bin_neq_i (a := new1.2) (b := (0 : Int)))) ?_
  refine Tops_nil (tZ [1, 14] [0, 1] [0] rfl rfl rfl rfl ?_)
  rcases Bool.eq_false_or_eq_true (new1.2 != (0 : Int)) with hg1 | hg1
  ·replace h := br_t hg1 h
   refine Tk_condT (congrArg (fun b => some (Value.bool b)) hg1) ?_
   refine Tk_seq (Tk_region (Tops_step rfl (OpT_assign rfl rfl rfl rfl) ?_))
   refine Tops_nil (tZ [0] [] [] rfl rfl rfl rfl ?_)
   obtain rfl := Option.some.inj h
   exact Tk_retV rfl rfl (resA (vs := [vB false]) rfl ⟨rfl, trivial⟩) [] [] rfl rfl rfl ⟨rfl, rfl, rfl⟩
  ·replace h := br_f hg1 h
   refine Tk_condF (congrArg (fun b => some (Value.bool b)) hg1) ?_
   refine Tk_skip (Tk_seq (Tk_region (Tops_step rfl (OpT_build (v := .agg #[vU32 (0 : UInt32), vU64 (0 : UInt64), .slice none 0 0, vI (512 : Int), .slice none 0 0]) rfl rfl rfl rfl (bldV (by kernel_rfl))) ?_)))
   refine Tops_ex rfl (OpT_alloc rfl rfl rfl tyZ38) fun b2 => ?_
   refine Tops_step rfl (OpT_storeC (cs' := [vU32 (0 : UInt32), vU64 (0 : UInt64), .slice none 0 0, vI (512 : Int), .slice none 0 0]) rfl rfl rfl rfl tyF38 (i := 2) rfl rfl rfl (one_of rfl) rfl) ?_
   refine Tops_nil (tZ [1, 3] [0, 1, 2] [0] rfl rfl rfl rfl ?_)
   refine Tk_seq (Tk_region (Tops_step rfl (OpT_move rfl rfl rfl rfl) ?_))
   refine Tops_step rfl (OpT_loadCA (vs := [vU32 (0 : UInt32), vU64 (0 : UInt64), .slice none 0 0, vI (512 : Int), .slice none 0 0]) rfl rfl rfl rfl tyF38 (i := 2) rfl rfl rfl) ?_
   refine Tops_ex rfl (OpT_buildSlice (S := iS) (xs := [(4 : Int)]) (css := [[vI (4 : Int)]]) (cs := [vI (4 : Int)]) (e := 3) rfl rfl rfl rfl (bldF slF23 (by decide) (by kernel_rfl)) rfl rfl rfl rfl (rel_plainD (S := iS) (xs := [(4 : Int)]) (css := [[vI (4 : Int)]]) rfl rfl)) fun v5 => ?_
   refine Tops_nilfact u8S ?_
   refine Tops_nilfact RangeS ?_
   obtain ⟨lay1, hx2, h⟩ := ob_e h
   refine Tops_exP rfl (OpT_callB [3] [4, 5, 2, 3, 6] (w_blkdrv_Lay hx2) [0, 1] rfl rfl rfl rfl rfl callee19 rfl rfl rfl rfl rfl rfl (bor_cons (bor_shr 0 rfl) (bor_cons (bor_shr 1 rfl) (bor_cons (bor_shr 2 rfl) (bor_cons (bor_row 3 rfl rfl) bor_nil)))) (by rintro _ _ _ ⟨_, rfl, rfl, rfl⟩; exact ⟨rfl, (ri_cons (ri_cells _ _ _) (ri_cons (ri_rows rfl _ _ _ _ _) (ri_cons (ri_row (S := SegS) rfl _ _) ri_nil)))⟩)) ?_
   rintro _ ⟨_, _, _, ⟨v6, rfl, rfl, rfl⟩, rfl⟩
   refine Tops_step rfl (OpT_move rfl rfl rfl rfl) ?_
   refine Tops_step rfl (OpT_extract rfl rfl rfl rfl rfl) ?_
   refine Tops_step rfl (OpT_extract rfl rfl rfl rfl rfl) ?_
   refine Tops_step rfl (OpT_assign rfl rfl rfl rfl) ?_
   refine Tops_step rfl (OpT_assign rfl rfl rfl rfl) ?_
   refine Tops_nil (tZ [3, 4, 2] [2, 4] [] rfl rfl rfl rfl ?_)
   refine Tk_seq (Tk_region (Tops_step rfl (OpT_loadCA (vs := [vU32 (0 : UInt32), vU64 (0 : UInt64), .slice none 0 0, vI (512 : Int), .slice none 0 0]) rfl rfl rfl rfl tyF38 (i := 0) rfl rfl rfl) ?_))
   refine Tops_nilfact u8S ?_
   refine Tops_nilfact RangeS ?_
   obtain ⟨size1, hx3, h⟩ := ob_e h
   refine Tops_exP rfl (OpT_call (w_blkdrv_Size hx3) [] [0, 1] rfl rfl rfl rfl rfl callee14 rfl rfl rfl rfl) ?_
   rintro _ ⟨_, _, _, ⟨rfl, rfl, rfl⟩, rfl⟩
   refine Tops_step rfl (OpT_move rfl rfl rfl rfl) ?_
   refine Tops_step rfl (OpT_extract rfl rfl rfl rfl rfl) ?_
   refine Tops_step rfl (OpT_extract rfl rfl rfl rfl rfl) ?_
   refine Tops_step rfl (OpT_assign rfl rfl rfl rfl) ?_
   refine Tops_step rfl (OpT_assign rfl rfl rfl rfl) ?_
   refine Tops_nil (tZ [4, 2, 5, 6] [1] [] rfl rfl rfl rfl ?_)
   refine Tk_seq (Tk_region (Tops_step rfl (OpT_move rfl rfl rfl rfl) ?_))
   refine Tops_step rfl (OpT_bin rfl rfl rfl rfl rfl (bin_eql_i (a := lay1.2.1) (b := (0 : Int)))) ?_
   refine Tops_step rfl (OpT_move rfl rfl rfl rfl) ?_
   rcases Bool.eq_false_or_eq_true (lay1.2.1 == (0 : Int)) with hg2 | hg2
   ·replace h := br_t hg2 h
    refine Tops_yes rfl rfl (congrArg (fun b => some (Value.bool b)) hg2) (OpT_move rfl rfl rfl rfl) ?_
    rintro _ rfl
    refine Tops_yes rfl rfl (congrArg (fun b => some (Value.bool b)) hg2) (OpT_bin rfl rfl rfl rfl rfl (bin_eql_i (a := size1.2) (b := (0 : Int)))) ?_
    rintro _ rfl
    refine Tops_step rfl (OpT_pickT rfl rfl rfl (congrArg (fun b => some (Value.bool b)) hg2) rfl) ?_
    refine Tops_step rfl (OpT_move rfl rfl rfl rfl) ?_
    rcases Bool.eq_false_or_eq_true (size1.2 == (0 : Int)) with hg3 | hg3
    ·replace h := br_t hg3 h
     refine Tops_yes rfl rfl (congrArg (fun b => some (Value.bool b)) hg3) (OpT_move rfl rfl rfl rfl) ?_
     rintro _ rfl
     refine Tops_yes rfl rfl (congrArg (fun b => some (Value.bool b)) hg3) (OpT_bin rfl rfl rfl rfl rfl (bin_eql_i (a := size1.1) (b := (529 : Int)))) ?_
     rintro _ rfl
     refine Tops_step rfl (OpT_pickT rfl rfl rfl (congrArg (fun b => some (Value.bool b)) hg3) rfl) ?_
     refine Tops_step rfl (OpT_move rfl rfl rfl rfl) ?_
     rcases Bool.eq_false_or_eq_true (size1.1 == (529 : Int)) with hg4 | hg4
     ·replace h := br_t hg4 h
      obtain ⟨config1, hx4, h⟩ := ob_e h
      refine Tops_yes rfl rfl (congrArg (fun b => some (Value.bool b)) hg4) (OpT_call (w_blkdrv_Config hx4) [] [] rfl rfl rfl rfl rfl callee25 rfl rfl rfl rfl) ?_
      rintro _ ⟨v7, _, _, ⟨_, rfl, rfl, rfl⟩, rfl⟩
      obtain ⟨capaci1, hx5, h⟩ := ob_e h
      refine Tops_yes rfl rfl (congrArg (fun b => some (Value.bool b)) hg4) (OpT_callB [1] [0, 1] (w_blkdrv_Capacity hx5) [] rfl rfl rfl rfl rfl callee24 rfl rfl rfl rfl rfl rfl (bor_cons (bor_row 1 rfl rfl) bor_nil) (by rintro _ _ _ ⟨rfl, rfl, rfl⟩; exact ⟨rfl, ri_nil⟩)) ?_
      rintro _ ⟨_, _, _, ⟨rfl, rfl, rfl⟩, rfl⟩
      refine Tops_yes rfl rfl (congrArg (fun b => some (Value.bool b)) hg4) (OpT_bin rfl rfl rfl rfl rfl (bin_eql_u64 (a := capaci1) (b := (5 : UInt64)))) ?_
      rintro _ rfl
      refine Tops_step rfl (OpT_pickT rfl rfl rfl (congrArg (fun b => some (Value.bool b)) hg4) rfl) ?_
      refine Tops_step rfl (OpT_move rfl rfl rfl rfl) ?_
      rcases Bool.eq_false_or_eq_true (capaci1 == (5 : UInt64)) with hg5 | hg5
      ·replace h := br_t hg5 h
       refine Tops_yes rfl rfl (congrArg (fun b => some (Value.bool b)) hg5) (OpT_move rfl rfl rfl rfl) ?_
       rintro _ rfl
       refine Tops_yes rfl rfl (congrArg (fun b => some (Value.bool b)) hg5) (OpT_build (v := .agg #[vU64 (100 : UInt64), vU32 (4 : UInt32), vB false]) rfl rfl rfl rfl (bldV (by kernel_rfl))) ?_
       rintro _ rfl
       refine Tops_yes rfl rfl (congrArg (fun b => some (Value.bool b)) hg5) (OpT_build (v := .agg #[vU64 (104 : UInt64), vU32 (12 : UInt32), vB false]) rfl rfl rfl rfl (bldV (by kernel_rfl))) ?_
       rintro _ rfl
       refine Tops_yes rfl rfl (congrArg (fun b => some (Value.bool b)) hg5) (OpT_build (v := .agg #[vU64 (116 : UInt64), vU32 (4 : UInt32), vB true]) rfl rfl rfl rfl (bldV (by kernel_rfl))) ?_
       rintro _ rfl
       refine Tops_yes rfl rfl (congrArg (fun b => some (Value.bool b)) hg5) (OpT_build (v := .agg #[vU64 (120 : UInt64), vU32 (509 : UInt32), vB true]) rfl rfl rfl rfl (bldV (by kernel_rfl))) ?_
       rintro _ rfl
       refine Tops_yes rfl rfl (congrArg (fun b => some (Value.bool b)) hg5) (OpT_buildSlice (S := SegS) (xs := [(Seg.mk (100 : UInt64) (4 : UInt32) false), (Seg.mk (104 : UInt64) (12 : UInt32) false), (Seg.mk (116 : UInt64) (4 : UInt32) true), (Seg.mk (120 : UInt64) (509 : UInt32) true)]) (css := [[vU64 (100 : UInt64), vU32 (4 : UInt32), vB false], [vU64 (104 : UInt64), vU32 (12 : UInt32), vB false], [vU64 (116 : UInt64), vU32 (4 : UInt32), vB true], [vU64 (120 : UInt64), vU32 (509 : UInt32), vB true]]) (cs := [vU64 (100 : UInt64), vU32 (4 : UInt32), vB false, vU64 (104 : UInt64), vU32 (12 : UInt32), vB false, vU64 (116 : UInt64), vU32 (4 : UInt32), vB true, vU64 (120 : UInt64), vU32 (509 : UInt32), vB true]) (e := 32) rfl rfl rfl rfl (bldF slF22 (by decide) (by kernel_rfl)) rfl rfl rfl rfl (rel_plainD (S := SegS) (xs := [(Seg.mk (100 : UInt64) (4 : UInt32) false), (Seg.mk (104 : UInt64) (12 : UInt32) false), (Seg.mk (116 : UInt64) (4 : UInt32) true), (Seg.mk (120 : UInt64) (509 : UInt32) true)]) (css := [[vU64 (100 : UInt64), vU32 (4 : UInt32), vB false], [vU64 (104 : UInt64), vU32 (12 : UInt32), vB false], [vU64 (116 : UInt64), vU32 (4 : UInt32), vB true], [vU64 (120 : UInt64), vU32 (509 : UInt32), vB true]]) rfl rfl)) ?_
       rintro _ ⟨v8, rfl⟩
       obtain ⟨samese1, hx6, h⟩ := ob_e h
       refine Tops_yes rfl rfl (congrArg (fun b => some (Value.bool b)) hg5) (OpT_callB [0, 2] [0, 1, 2] (w_kit_SameSegs hx6) [] rfl rfl rfl rfl rfl callee12 rfl rfl rfl rfl rfl rfl (bor_cons (bor_row 0 rfl rfl) (bor_cons (bor_row 2 rfl rfl) bor_nil)) (by rintro _ _ _ ⟨rfl, rfl, rfl⟩; exact ⟨rfl, ri_nil⟩)) ?_
       rintro _ ⟨_, _, _, ⟨rfl, rfl, rfl⟩, rfl⟩
       refine Tops_step rfl (OpT_pickT rfl rfl rfl (congrArg (fun b => some (Value.bool b)) hg5) rfl) ?_
       refine Tops_step rfl (OpT_assign rfl rfl rfl rfl) ?_
       refine Tops_nil (tZ [0] [] [] rfl rfl rfl rfl ?_)
       obtain rfl := Option.some.inj h
       exact Tk_retV rfl rfl (resA (vs := [vB samese1]) rfl ⟨rfl, trivial⟩) [] [] rfl rfl rfl ⟨rfl, rfl, rfl⟩
      ·replace h := br_f hg5 h
       refine Tops_no rfl rfl (congrArg (fun b => some (Value.bool b)) hg5) rfl rfl ?_
       refine Tops_no rfl rfl (congrArg (fun b => some (Value.bool b)) hg5) rfl rfl ?_
       refine Tops_no rfl rfl (congrArg (fun b => some (Value.bool b)) hg5) rfl rfl ?_
       refine Tops_no rfl rfl (congrArg (fun b => some (Value.bool b)) hg5) rfl rfl ?_
       refine Tops_no rfl rfl (congrArg (fun b => some (Value.bool b)) hg5) rfl rfl ?_
       refine Tops_no rfl rfl (congrArg (fun b => some (Value.bool b)) hg5) rfl rfl ?_
       refine Tops_no rfl rfl (congrArg (fun b => some (Value.bool b)) hg5) rfl rfl ?_
       refine Tops_step rfl (OpT_pickF rfl rfl rfl (congrArg (fun b => some (Value.bool b)) hg5) rfl) ?_
       refine Tops_step rfl (OpT_assign rfl rfl rfl rfl) ?_
       refine Tops_nil (tZ [0] [] [] rfl rfl rfl rfl ?_)
       obtain rfl := Option.some.inj h
       exact Tk_retV rfl rfl (resA (vs := [vB false]) rfl ⟨rfl, trivial⟩) [] [] rfl rfl rfl ⟨rfl, rfl, rfl⟩
     ·replace h := br_f hg4 h
      refine Tops_no rfl rfl (congrArg (fun b => some (Value.bool b)) hg4) rfl rfl ?_
      refine Tops_no rfl rfl (congrArg (fun b => some (Value.bool b)) hg4) rfl rfl ?_
      refine Tops_no rfl rfl (congrArg (fun b => some (Value.bool b)) hg4) rfl rfl ?_
      refine Tops_step rfl (OpT_pickF rfl rfl rfl (congrArg (fun b => some (Value.bool b)) hg4) rfl) ?_
      refine Tops_step rfl (OpT_move rfl rfl rfl rfl) ?_
      refine Tops_no rfl rfl rfl rfl rfl ?_
      refine Tops_no rfl rfl rfl rfl rfl ?_
      refine Tops_no rfl rfl rfl rfl rfl ?_
      refine Tops_no rfl rfl rfl rfl rfl ?_
      refine Tops_no rfl rfl rfl rfl rfl ?_
      refine Tops_no rfl rfl rfl rfl rfl ?_
      refine Tops_no rfl rfl rfl rfl rfl ?_
      refine Tops_step rfl (OpT_pickF rfl rfl rfl rfl rfl) ?_
      refine Tops_step rfl (OpT_assign rfl rfl rfl rfl) ?_
      refine Tops_nil (tZ [0] [] [] rfl rfl rfl rfl ?_)
      obtain rfl := Option.some.inj h
      exact Tk_retV rfl rfl (resA (vs := [vB false]) rfl ⟨rfl, trivial⟩) [] [] rfl rfl rfl ⟨rfl, rfl, rfl⟩
    ·replace h := br_f hg3 h
     refine Tops_no rfl rfl (congrArg (fun b => some (Value.bool b)) hg3) rfl rfl ?_
     refine Tops_no rfl rfl (congrArg (fun b => some (Value.bool b)) hg3) rfl rfl ?_
     refine Tops_step rfl (OpT_pickF rfl rfl rfl (congrArg (fun b => some (Value.bool b)) hg3) rfl) ?_
     refine Tops_step rfl (OpT_move rfl rfl rfl rfl) ?_
     refine Tops_no rfl rfl rfl rfl rfl ?_
     refine Tops_no rfl rfl rfl rfl rfl ?_
     refine Tops_no rfl rfl rfl rfl rfl ?_
     refine Tops_step rfl (OpT_pickF rfl rfl rfl rfl rfl) ?_
     refine Tops_step rfl (OpT_move rfl rfl rfl rfl) ?_
     refine Tops_no rfl rfl rfl rfl rfl ?_
     refine Tops_no rfl rfl rfl rfl rfl ?_
     refine Tops_no rfl rfl rfl rfl rfl ?_
     refine Tops_no rfl rfl rfl rfl rfl ?_
     refine Tops_no rfl rfl rfl rfl rfl ?_
     refine Tops_no rfl rfl rfl rfl rfl ?_
     refine Tops_no rfl rfl rfl rfl rfl ?_
     refine Tops_step rfl (OpT_pickF rfl rfl rfl rfl rfl) ?_
     refine Tops_step rfl (OpT_assign rfl rfl rfl rfl) ?_
     refine Tops_nil (tZ [0] [] [] rfl rfl rfl rfl ?_)
     obtain rfl := Option.some.inj h
     exact Tk_retV rfl rfl (resA (vs := [vB false]) rfl ⟨rfl, trivial⟩) [] [] rfl rfl rfl ⟨rfl, rfl, rfl⟩
   ·replace h := br_f hg2 h
    refine Tops_no rfl rfl (congrArg (fun b => some (Value.bool b)) hg2) rfl rfl ?_
    refine Tops_no rfl rfl (congrArg (fun b => some (Value.bool b)) hg2) rfl rfl ?_
    refine Tops_step rfl (OpT_pickF rfl rfl rfl (congrArg (fun b => some (Value.bool b)) hg2) rfl) ?_
    refine Tops_step rfl (OpT_move rfl rfl rfl rfl) ?_
    refine Tops_no rfl rfl rfl rfl rfl ?_
    refine Tops_no rfl rfl rfl rfl rfl ?_
    refine Tops_step rfl (OpT_pickF rfl rfl rfl rfl rfl) ?_
    refine Tops_step rfl (OpT_move rfl rfl rfl rfl) ?_
    refine Tops_no rfl rfl rfl rfl rfl ?_
    refine Tops_no rfl rfl rfl rfl rfl ?_
    refine Tops_no rfl rfl rfl rfl rfl ?_
    refine Tops_step rfl (OpT_pickF rfl rfl rfl rfl rfl) ?_
    refine Tops_step rfl (OpT_move rfl rfl rfl rfl) ?_
    refine Tops_no rfl rfl rfl rfl rfl ?_
    refine Tops_no rfl rfl rfl rfl rfl ?_
    refine Tops_no rfl rfl rfl rfl rfl ?_
    refine Tops_no rfl rfl rfl rfl rfl ?_
    refine Tops_no rfl rfl rfl rfl rfl ?_
    refine Tops_no rfl rfl rfl rfl rfl ?_
    refine Tops_no rfl rfl rfl rfl rfl ?_
    refine Tops_step rfl (OpT_pickF rfl rfl rfl rfl rfl) ?_
    refine Tops_step rfl (OpT_assign rfl rfl rfl rfl) ?_
    refine Tops_nil (tZ [0] [] [] rfl rfl rfl rfl ?_)
    obtain rfl := Option.some.inj h
    exact Tk_retV rfl rfl (resA (vs := [vB false]) rfl ⟨rfl, trivial⟩) [] [] rfl rfl rfl ⟨rfl, rfl, rfl⟩

set_option maxRecDepth 100000 in
set_option maxHeartbeats 4000000 in
theorem w_kit_LightReq {rp0 : Req} {most : Int} {vrp01 : Value} {vrp02 : Value} {r : Bool} (h : kit_LightReq rp0 most = some r) :
  Ctr Try.prog 13 #[.agg #[vU32 rp0.Type_, vU64 rp0.Sector, vrp01, vI rp0.Room, vrp02], vI most] [] [Fact.sl u8S vrp01 rp0.Data, Fact.sl RangeS vrp02 rp0.Ranges]
   (fun rv own shr => rv = vB r ∧ own = [] ∧ shr = []) := by
 unfold kit_LightReq at h
 refine Ctr.mk (args := [.agg #[vU32 rp0.Type_, vU64 rp0.Sector, vrp01, vI rp0.Room, vrp02], vI most]) Try.func13 rfl rfl (fun R0 w0 B => ?_)
 refine Tk_seq (Tk_region (Tops_ex rfl (OpT_box rfl rfl rfl rfl) fun b1 => ?_))
 refine Tops_step rfl (OpT_assign rfl rfl rfl rfl) ?_
 refine Tops_nil (tZ [1, 2] [0] [0, 1] rfl rfl rfl rfl ?_)
 refine Tk_seq (Tk_region (Tops_step rfl (OpT_fieldC rfl rfl rfl rfl fldF38x2) ?_))
 refine Tops_step rfl (OpT_loadC rfl rfl rfl rfl tyF35 (i := 0) rfl rfl) ?_
 refine Tops_step rfl (OpT_lenS rfl rfl rfl rfl Try.underlying35 (i := 0) rfl) ?_
 refine Tops_step rfl (OpT_move rfl rfl rfl rfl) ?_
 refine Tops_step rfl (OpT_bin rfl rfl rfl rfl rfl (bin_leq_i (a := len rp0.Data) (b := most))) ?_
 refine Tops_step rfl (OpT_move rfl rfl rfl rfl) ?_
 rcases Bool.eq_false_or_eq_true (decide ((len rp0.Data) ≤ most)) with hg1 | hg1
 ·replace h := br_t hg1 h
  refine Tops_yes rfl rfl (congrArg (fun b => some (Value.bool b)) hg1) (OpT_fieldC rfl rfl rfl rfl fldF38x4) ?_
  rintro _ rfl
  refine Tops_yes rfl rfl (congrArg (fun b => some (Value.bool b)) hg1) (OpT_loadC rfl rfl rfl rfl tyF36 (i := 0) rfl rfl) ?_
  rintro _ rfl
  refine Tops_yes rfl rfl (congrArg (fun b => some (Value.bool b)) hg1) (OpT_lenS rfl rfl rfl rfl Try.underlying36 (i := 1) rfl) ?_
  rintro _ rfl
  refine Tops_yes rfl rfl (congrArg (fun b => some (Value.bool b)) hg1) (OpT_bin rfl rfl rfl rfl rfl (bin_leq_i (a := len rp0.Ranges) (b := (40 : Int)))) ?_
  rintro _ rfl
  refine Tops_step rfl (OpT_pickT rfl rfl rfl (congrArg (fun b => some (Value.bool b)) hg1) rfl) ?_
  refine Tops_step rfl (OpT_move rfl rfl rfl rfl) ?_
  rcases Bool.eq_false_or_eq_true (decide ((len rp0.Ranges) ≤ (40 : Int))) with hg2 | hg2
  ·replace h := br_t hg2 h
   refine Tops_yes rfl rfl (congrArg (fun b => some (Value.bool b)) hg2) (OpT_fieldC rfl rfl rfl rfl fldF38x3) ?_
   rintro _ rfl
   refine Tops_yes rfl rfl (congrArg (fun b => some (Value.bool b)) hg2) (OpT_loadC rfl rfl rfl rfl tyF3 (i := 0) rfl rfl) ?_
   rintro _ rfl
   refine Tops_yes rfl rfl (congrArg (fun b => some (Value.bool b)) hg2) (OpT_move rfl rfl rfl rfl) ?_
   rintro _ rfl
   refine Tops_yes rfl rfl (congrArg (fun b => some (Value.bool b)) hg2) (OpT_bin rfl rfl rfl rfl rfl (bin_leq_i (a := rp0.Room) (b := most))) ?_
   rintro _ rfl
   refine Tops_step rfl (OpT_pickT rfl rfl rfl (congrArg (fun b => some (Value.bool b)) hg2) rfl) ?_
   refine Tops_step rfl (OpT_assign rfl rfl rfl rfl) ?_
   refine Tops_nil (tZ [4] [] [] rfl rfl rfl rfl ?_)
   obtain rfl := Option.some.inj h
   exact Tk_retV rfl rfl (resA (vs := [vB (decide (rp0.Room ≤ most))]) rfl ⟨rfl, trivial⟩) [] [] rfl rfl rfl ⟨rfl, rfl, rfl⟩
  ·replace h := br_f hg2 h
   refine Tops_no rfl rfl (congrArg (fun b => some (Value.bool b)) hg2) rfl rfl ?_
   refine Tops_no rfl rfl (congrArg (fun b => some (Value.bool b)) hg2) rfl rfl ?_
   refine Tops_no rfl rfl (congrArg (fun b => some (Value.bool b)) hg2) rfl rfl ?_
   refine Tops_no rfl rfl (congrArg (fun b => some (Value.bool b)) hg2) rfl rfl ?_
   refine Tops_step rfl (OpT_pickF rfl rfl rfl (congrArg (fun b => some (Value.bool b)) hg2) rfl) ?_
   refine Tops_step rfl (OpT_assign rfl rfl rfl rfl) ?_
   refine Tops_nil (tZ [4] [] [] rfl rfl rfl rfl ?_)
   obtain rfl := Option.some.inj h
   exact Tk_retV rfl rfl (resA (vs := [vB false]) rfl ⟨rfl, trivial⟩) [] [] rfl rfl rfl ⟨rfl, rfl, rfl⟩
 ·replace h := br_f hg1 h
  refine Tops_no rfl rfl (congrArg (fun b => some (Value.bool b)) hg1) rfl rfl ?_
  refine Tops_no rfl rfl (congrArg (fun b => some (Value.bool b)) hg1) rfl rfl ?_
  refine Tops_no rfl rfl (congrArg (fun b => some (Value.bool b)) hg1) rfl rfl ?_
  refine Tops_no rfl rfl (congrArg (fun b => some (Value.bool b)) hg1) rfl rfl ?_
  refine Tops_step rfl (OpT_pickF rfl rfl rfl (congrArg (fun b => some (Value.bool b)) hg1) rfl) ?_
  refine Tops_step rfl (OpT_move rfl rfl rfl rfl) ?_
  refine Tops_no rfl rfl rfl rfl rfl ?_
  refine Tops_no rfl rfl rfl rfl rfl ?_
  refine Tops_no rfl rfl rfl rfl rfl ?_
  refine Tops_no rfl rfl rfl rfl rfl ?_
  refine Tops_step rfl (OpT_pickF rfl rfl rfl rfl rfl) ?_
  refine Tops_step rfl (OpT_assign rfl rfl rfl rfl) ?_
  refine Tops_nil (tZ [4] [] [] rfl rfl rfl rfl ?_)
  obtain rfl := Option.some.inj h
  exact Tk_retV rfl rfl (resA (vs := [vB false]) rfl ⟨rfl, trivial⟩) [] [] rfl rfl rfl ⟨rfl, rfl, rfl⟩

set_option maxRecDepth 100000 in
set_option maxHeartbeats 4000000 in
theorem w_ref_ranged21 {tp0 : UInt32} {r : Bool} (h : ref_ranged21 tp0 = some r) :
  Ctr Try.prog 63 #[vU32 tp0] [] []
   (fun rv own shr => rv = vB r ∧ own = [] ∧ shr = []) := by
 unfold ref_ranged21 at h
 refine Ctr.mk (args := [vU32 tp0]) Try.func63 rfl rfl (fun R0 w0 B => ?_)
 refine Tk_seq (Tk_region (Tops_step rfl (OpT_assign rfl rfl rfl rfl) ?_))
 refine Tops_nil (tZ [0] [] [] rfl rfl rfl rfl ?_)
 refine Tk_seq (Tk_region (Tops_step rfl (OpT_move rfl rfl rfl rfl) ?_))
 refine Tops_step rfl (OpT_bin rfl rfl rfl rfl rfl (bin_eql_u32 (a := tp0) (b := (11 : UInt32)))) ?_
 refine Tops_step rfl (OpT_move rfl rfl rfl rfl) ?_
 rcases Bool.eq_false_or_eq_true (tp0 == (11 : UInt32)) with hg1 | hg1
 ·replace h := br_t hg1 h
  refine Tops_no rfl rfl (congrArg (fun b => some (Value.bool b)) hg1) rfl rfl ?_
  refine Tops_no rfl rfl (congrArg (fun b => some (Value.bool b)) hg1) rfl rfl ?_
  refine Tops_step rfl (OpT_pickT rfl rfl rfl (congrArg (fun b => some (Value.bool b)) hg1) rfl) ?_
  refine Tops_step rfl (OpT_assign rfl rfl rfl rfl) ?_
  refine Tops_nil (tZ [2] [] [] rfl rfl rfl rfl ?_)
  obtain rfl := Option.some.inj h
  exact Tk_retV rfl rfl (resA (vs := [vB true]) rfl ⟨rfl, trivial⟩) [] [] rfl rfl rfl ⟨rfl, rfl, rfl⟩
 ·replace h := br_f hg1 h
  refine Tops_yes rfl rfl (congrArg (fun b => some (Value.bool b)) hg1) (OpT_move rfl rfl rfl rfl) ?_
  rintro _ rfl
  refine Tops_yes rfl rfl (congrArg (fun b => some (Value.bool b)) hg1) (OpT_bin rfl rfl rfl rfl rfl (bin_eql_u32 (a := tp0) (b := (13 : UInt32)))) ?_
  rintro _ rfl
  refine Tops_step rfl (OpT_pickF rfl rfl rfl (congrArg (fun b => some (Value.bool b)) hg1) rfl) ?_
  refine Tops_step rfl (OpT_assign rfl rfl rfl rfl) ?_
  refine Tops_nil (tZ [2] [] [] rfl rfl rfl rfl ?_)
  obtain rfl := Option.some.inj h
  exact Tk_retV rfl rfl (resA (vs := [vB (tp0 == (13 : UInt32))]) rfl ⟨rfl, trivial⟩) [] [] rfl rfl rfl ⟨rfl, rfl, rfl⟩

set_option maxRecDepth 100000 in
set_option maxHeartbeats 4000000 in
theorem w_ref_Check21 {rp0 : Req} {vrp01 : Value} {vrp02 : Value} {r : Int} (h : ref_Check21 rp0 = some r) :
  Ctr Try.prog 35 #[.agg #[vU32 rp0.Type_, vU64 rp0.Sector, vrp01, vI rp0.Room, vrp02]] [] [Fact.sl u8S vrp01 rp0.Data, Fact.sl RangeS vrp02 rp0.Ranges]
   (fun rv own shr => rv = vI r ∧ own = [] ∧ shr = []) := by
 unfold ref_Check21 at h
 refine Ctr.mk (args := [.agg #[vU32 rp0.Type_, vU64 rp0.Sector, vrp01, vI rp0.Room, vrp02]]) Try.func35 rfl rfl (fun R0 w0 B => ?_)
 refine Tk_seq (Tk_region (Tops_ex rfl (OpT_box rfl rfl rfl rfl) fun b1 => ?_))
 refine Tops_step rfl (OpT_assign rfl rfl rfl rfl) ?_
 refine Tops_nil (tZ [1] [0] [0, 1] rfl rfl rfl rfl ?_)
 refine Tk_seq (Tk_seq (Tk_region (Tops_step rfl (OpT_fieldC rfl rfl rfl rfl fldF38x4) ?_)))
 refine Tops_step rfl (OpT_loadC rfl rfl rfl rfl tyF36 (i := 0) rfl rfl) ?_
 refine Tops_step rfl (OpT_lenS rfl rfl rfl rfl Try.underlying36 (i := 1) rfl) ?_
 refine Tops_step rfl (OpT_bin rfl rfl rfl rfl rfl (bin_gtr_i (a := len rp0.Ranges) (b := (16 : Int)))) ?_
 refine Tops_step rfl (OpT_move rfl rfl rfl rfl) ?_
 rcases Bool.eq_false_or_eq_true (decide ((len rp0.Ranges) > (16 : Int))) with hg1 | hg1
 ·replace h := br_t hg1 h
  refine Tops_no rfl rfl (congrArg (fun b => some (Value.bool b)) hg1) rfl rfl ?_
  refine Tops_no rfl rfl (congrArg (fun b => some (Value.bool b)) hg1) rfl rfl ?_
  refine Tops_no rfl rfl (congrArg (fun b => some (Value.bool b)) hg1) rfl rfl ?_
  refine Tops_no rfl rfl (congrArg (fun b => some (Value.bool b)) hg1) rfl rfl ?_
  refine Tops_no rfl rfl (congrArg (fun b => some (Value.bool b)) hg1) rfl rfl ?_
  refine Tops_noU rfl rfl rfl rfl rfl ?_
  refine Tops_noU rfl rfl rfl rfl rfl ?_
  refine Tops_noU rfl rfl rfl rfl rfl ?_
  refine Tops_noU rfl rfl rfl rfl rfl ?_
  refine Tops_noU rfl rfl rfl rfl rfl ?_
  refine Tops_noU rfl rfl rfl rfl rfl ?_
  refine Tops_noU rfl rfl rfl rfl rfl ?_
  refine Tops_noU rfl rfl rfl rfl rfl ?_
  refine Tops_noU rfl rfl rfl rfl rfl ?_
  refine Tops_noU rfl rfl rfl rfl rfl ?_
  refine Tops_no rfl rfl (congrArg (fun b => some (Value.bool b)) hg1) rfl rfl ?_
  refine Tops_step rfl (OpT_pickT rfl rfl rfl (congrArg (fun b => some (Value.bool b)) hg1) rfl) ?_
  refine Tops_step rfl (OpT_move rfl rfl rfl rfl) ?_
  refine Tops_no rfl rfl rfl rfl rfl ?_
  refine Tops_no rfl rfl rfl rfl rfl ?_
  refine Tops_no rfl rfl rfl rfl rfl ?_
  refine Tops_step rfl (OpT_pickT rfl rfl rfl rfl rfl) ?_
  refine Tops_nil (tZ [29] [] [] rfl rfl rfl rfl ?_)
  refine Tk_condT rfl ?_
  refine Tk_seq (Tk_region (Tops_step rfl (OpT_assign rfl rfl rfl rfl) ?_))
  refine Tops_nil (tZ [2] [] [] rfl rfl rfl rfl ?_)
  obtain rfl := Option.some.inj h
  exact Tk_retV rfl rfl (resA (vs := [vI (2 : Int)]) rfl ⟨rfl, trivial⟩) [] [] rfl rfl rfl ⟨rfl, rfl, rfl⟩
 ·replace h := br_f hg1 h
  refine Tops_yes rfl rfl (congrArg (fun b => some (Value.bool b)) hg1) (OpT_fieldC rfl rfl rfl rfl fldF38x4) ?_
  rintro _ rfl
  refine Tops_yes rfl rfl (congrArg (fun b => some (Value.bool b)) hg1) (OpT_loadC rfl rfl rfl rfl tyF36 (i := 0) rfl rfl) ?_
  rintro _ rfl
  refine Tops_yes rfl rfl (congrArg (fun b => some (Value.bool b)) hg1) (OpT_lenS rfl rfl rfl rfl Try.underlying36 (i := 1) rfl) ?_
  rintro _ rfl
  refine Tops_yes rfl rfl (congrArg (fun b => some (Value.bool b)) hg1) (OpT_bin rfl rfl rfl rfl rfl (bin_gtr_i (a := len rp0.Ranges) (b := (0 : Int)))) ?_
  rintro _ rfl
  refine Tops_yes rfl rfl (congrArg (fun b => some (Value.bool b)) hg1) (OpT_move rfl rfl rfl rfl) ?_
  rintro _ rfl
  rcases Bool.eq_false_or_eq_true (decide ((len rp0.Ranges) > (0 : Int))) with hg2 | hg2
  ·replace h := br_t hg2 h
   refine Tops_yes rfl rfl (congrArg (fun b => some (Value.bool b)) hg2) (OpT_fieldC rfl rfl rfl rfl fldF38x0) ?_
   rintro _ rfl
   refine Tops_yes rfl rfl (congrArg (fun b => some (Value.bool b)) hg2) (OpT_loadC rfl rfl rfl rfl tyF30 (i := 0) rfl rfl) ?_
   rintro _ rfl
   obtain ⟨ranged1, hx1, h⟩ := ob_e h
   refine Tops_yes rfl rfl (congrArg (fun b => some (Value.bool b)) hg2) (OpT_call (w_ref_ranged21 hx1) [] [] rfl rfl rfl rfl rfl callee63 rfl rfl rfl rfl) ?_
   rintro _ ⟨_, _, _, ⟨rfl, rfl, rfl⟩, rfl⟩
   refine Tops_yes rfl rfl (congrArg (fun b => some (Value.bool b)) hg2) (OpT_not rfl rfl rfl rfl) ?_
   rintro _ rfl
   refine Tops_yes rfl rfl (congrArg (fun b => some (Value.bool b)) hg2) (OpT_move rfl rfl rfl rfl) ?_
   rintro _ rfl
   rcases Bool.eq_false_or_eq_true ((!ranged1)) with hg3 | hg3
   ·replace h := br_t hg3 h
    refine Tops_no rfl rfl (congrArg (fun b => some (Value.bool b)) hg3) rfl rfl ?_
    refine Tops_no rfl rfl (congrArg (fun b => some (Value.bool b)) hg3) rfl rfl ?_
    refine Tops_no rfl rfl (congrArg (fun b => some (Value.bool b)) hg3) rfl rfl ?_
    refine Tops_no rfl rfl (congrArg (fun b => some (Value.bool b)) hg3) rfl rfl ?_
    refine Tops_yes rfl rfl (congrArg (fun b => some (Value.bool b)) hg2) (OpT_pickT rfl rfl rfl (congrArg (fun b => some (Value.bool b)) hg3) rfl) ?_
    rintro _ rfl
    refine Tops_yes rfl rfl (congrArg (fun b => some (Value.bool b)) hg1) (OpT_pickT rfl rfl rfl (congrArg (fun b => some (Value.bool b)) hg2) rfl) ?_
    rintro _ rfl
    refine Tops_step rfl (OpT_pickF rfl rfl rfl (congrArg (fun b => some (Value.bool b)) hg1) rfl) ?_
    refine Tops_step rfl (OpT_move rfl rfl rfl rfl) ?_
    refine Tops_no rfl rfl rfl rfl rfl ?_
    refine Tops_no rfl rfl rfl rfl rfl ?_
    refine Tops_no rfl rfl rfl rfl rfl ?_
    refine Tops_step rfl (OpT_pickT rfl rfl rfl rfl rfl) ?_
    refine Tops_nil (tZ [29] [] [] rfl rfl rfl rfl ?_)
    refine Tk_condT rfl ?_
    refine Tk_seq (Tk_region (Tops_step rfl (OpT_assign rfl rfl rfl rfl) ?_))
    refine Tops_nil (tZ [2] [] [] rfl rfl rfl rfl ?_)
    obtain rfl := Option.some.inj h
    exact Tk_retV rfl rfl (resA (vs := [vI (2 : Int)]) rfl ⟨rfl, trivial⟩) [] [] rfl rfl rfl ⟨rfl, rfl, rfl⟩
   ·replace h := br_f hg3 h
    refine Tops_yes rfl rfl (congrArg (fun b => some (Value.bool b)) hg3) (OpT_fieldC rfl rfl rfl rfl fldF38x2) ?_
    rintro _ rfl
    refine Tops_yes rfl rfl (congrArg (fun b => some (Value.bool b)) hg3) (OpT_loadC rfl rfl rfl rfl tyF35 (i := 0) rfl rfl) ?_
    rintro _ rfl
    refine Tops_yes rfl rfl (congrArg (fun b => some (Value.bool b)) hg3) (OpT_lenS rfl rfl rfl rfl Try.underlying35 (i := 0) rfl) ?_
    rintro _ rfl
    refine Tops_yes rfl rfl (congrArg (fun b => some (Value.bool b)) hg3) (OpT_bin rfl rfl rfl rfl rfl (bin_gtr_i (a := len rp0.Data) (b := (0 : Int)))) ?_
    rintro _ rfl
    refine Tops_yes rfl rfl (congrArg (fun b => some (Value.bool b)) hg2) (OpT_pickF rfl rfl rfl (congrArg (fun b => some (Value.bool b)) hg3) rfl) ?_
    rintro _ rfl
    refine Tops_yes rfl rfl (congrArg (fun b => some (Value.bool b)) hg1) (OpT_pickT rfl rfl rfl (congrArg (fun b => some (Value.bool b)) hg2) rfl) ?_
    rintro _ rfl
    refine Tops_step rfl (OpT_pickF rfl rfl rfl (congrArg (fun b => some (Value.bool b)) hg1) rfl) ?_
    refine Tops_step rfl (OpT_move rfl rfl rfl rfl) ?_
    rcases Bool.eq_false_or_eq_true (decide ((len rp0.Data) > (0 : Int))) with hg4 | hg4
    ·replace h := br_t hg4 h
     refine Tops_no rfl rfl (congrArg (fun b => some (Value.bool b)) hg4) rfl rfl ?_
     refine Tops_no rfl rfl (congrArg (fun b => some (Value.bool b)) hg4) rfl rfl ?_
     refine Tops_no rfl rfl (congrArg (fun b => some (Value.bool b)) hg4) rfl rfl ?_
     refine Tops_step rfl (OpT_pickT rfl rfl rfl (congrArg (fun b => some (Value.bool b)) hg4) rfl) ?_
     refine Tops_nil (tZ [29] [] [] rfl rfl rfl rfl ?_)
     refine Tk_condT rfl ?_
     refine Tk_seq (Tk_region (Tops_step rfl (OpT_assign rfl rfl rfl rfl) ?_))
     refine Tops_nil (tZ [2] [] [] rfl rfl rfl rfl ?_)
     obtain rfl := Option.some.inj h
     exact Tk_retV rfl rfl (resA (vs := [vI (2 : Int)]) rfl ⟨rfl, trivial⟩) [] [] rfl rfl rfl ⟨rfl, rfl, rfl⟩
    ·replace h := br_f hg4 h
     refine Tops_yes rfl rfl (congrArg (fun b => some (Value.bool b)) hg4) (OpT_fieldC rfl rfl rfl rfl fldF38x3) ?_
     rintro _ rfl
     refine Tops_yes rfl rfl (congrArg (fun b => some (Value.bool b)) hg4) (OpT_loadC rfl rfl rfl rfl tyF3 (i := 0) rfl rfl) ?_
     rintro _ rfl
     refine Tops_yes rfl rfl (congrArg (fun b => some (Value.bool b)) hg4) (OpT_bin rfl rfl rfl rfl rfl (bin_lss_i (a := rp0.Room) (b := (0 : Int)))) ?_
     rintro _ rfl
     refine Tops_step rfl (OpT_pickF rfl rfl rfl (congrArg (fun b => some (Value.bool b)) hg4) rfl) ?_
     refine Tops_nil (tZ [29] [] [] rfl rfl rfl rfl ?_)
     rcases Bool.eq_false_or_eq_true (decide (rp0.Room < (0 : Int))) with hg5 | hg5
     ·replace h := br_t hg5 h
      refine Tk_condT (congrArg (fun b => some (Value.bool b)) hg5) ?_
      refine Tk_seq (Tk_region (Tops_step rfl (OpT_assign rfl rfl rfl rfl) ?_))
      refine Tops_nil (tZ [2] [] [] rfl rfl rfl rfl ?_)
      obtain rfl := Option.some.inj h
      exact Tk_retV rfl rfl (resA (vs := [vI (2 : Int)]) rfl ⟨rfl, trivial⟩) [] [] rfl rfl rfl ⟨rfl, rfl, rfl⟩
     ·replace h := br_f hg5 h
      refine Tk_condF (congrArg (fun b => some (Value.bool b)) hg5) ?_
      refine Tk_skip (Tk_seq (Tk_region (Tops_step rfl (OpT_assign rfl rfl rfl rfl) ?_)))
      refine Tops_nil (tZ [2] [] [] rfl rfl rfl rfl ?_)
      obtain rfl := Option.some.inj h
      exact Tk_retV rfl rfl (resA (vs := [vI (0 : Int)]) rfl ⟨rfl, trivial⟩) [] [] rfl rfl rfl ⟨rfl, rfl, rfl⟩
  ·replace h := br_f hg2 h
   refine Tops_no rfl rfl (congrArg (fun b => some (Value.bool b)) hg2) rfl rfl ?_
   refine Tops_no rfl rfl (congrArg (fun b => some (Value.bool b)) hg2) rfl rfl ?_
   refine Tops_no rfl rfl (congrArg (fun b => some (Value.bool b)) hg2) rfl rfl ?_
   refine Tops_no rfl rfl (congrArg (fun b => some (Value.bool b)) hg2) rfl rfl ?_
   refine Tops_no rfl rfl (congrArg (fun b => some (Value.bool b)) hg2) rfl rfl ?_
   refine Tops_noU rfl rfl rfl rfl rfl ?_
   refine Tops_noU rfl rfl rfl rfl rfl ?_
   refine Tops_noU rfl rfl rfl rfl rfl ?_
   refine Tops_noU rfl rfl rfl rfl rfl ?_
   refine Tops_no rfl rfl (congrArg (fun b => some (Value.bool b)) hg2) rfl rfl ?_
   refine Tops_yes rfl rfl (congrArg (fun b => some (Value.bool b)) hg1) (OpT_pickF rfl rfl rfl (congrArg (fun b => some (Value.bool b)) hg2) rfl) ?_
   rintro _ rfl
   refine Tops_step rfl (OpT_pickF rfl rfl rfl (congrArg (fun b => some (Value.bool b)) hg1) rfl) ?_
   refine Tops_step rfl (OpT_move rfl rfl rfl rfl) ?_
   refine Tops_yes rfl rfl rfl (OpT_fieldC rfl rfl rfl rfl fldF38x3) ?_
   rintro _ rfl
   refine Tops_yes rfl rfl rfl (OpT_loadC rfl rfl rfl rfl tyF3 (i := 0) rfl rfl) ?_
   rintro _ rfl
   refine Tops_yes rfl rfl rfl (OpT_bin rfl rfl rfl rfl rfl (bin_lss_i (a := rp0.Room) (b := (0 : Int)))) ?_
   rintro _ rfl
   refine Tops_step rfl (OpT_pickF rfl rfl rfl rfl rfl) ?_
   refine Tops_nil (tZ [29] [] [] rfl rfl rfl rfl ?_)
   rcases Bool.eq_false_or_eq_true (decide (rp0.Room < (0 : Int))) with hg6 | hg6
   ·replace h := br_t hg6 h
    refine Tk_condT (congrArg (fun b => some (Value.bool b)) hg6) ?_
    refine Tk_seq (Tk_region (Tops_step rfl (OpT_assign rfl rfl rfl rfl) ?_))
    refine Tops_nil (tZ [2] [] [] rfl rfl rfl rfl ?_)
    obtain rfl := Option.some.inj h
    exact Tk_retV rfl rfl (resA (vs := [vI (2 : Int)]) rfl ⟨rfl, trivial⟩) [] [] rfl rfl rfl ⟨rfl, rfl, rfl⟩
   ·replace h := br_f hg6 h
    refine Tk_condF (congrArg (fun b => some (Value.bool b)) hg6) ?_
    refine Tk_skip (Tk_seq (Tk_region (Tops_step rfl (OpT_assign rfl rfl rfl rfl) ?_)))
    refine Tops_nil (tZ [2] [] [] rfl rfl rfl rfl ?_)
    obtain rfl := Option.some.inj h
    exact Tk_retV rfl rfl (resA (vs := [vI (0 : Int)]) rfl ⟨rfl, trivial⟩) [] [] rfl rfl rfl ⟨rfl, rfl, rfl⟩

set_option maxRecDepth 100000 in
set_option maxHeartbeats 4000000 in
theorem w_law22zmemory  {r : (List Region)} (h : law22zmemory = some r) :
  Ctr Try.prog 16 #[] [] []
   (fun rv own shr => ∃ (w1 : Value), rv = w1 ∧ own = [(rowS RegionS w1 r)] ∧ shr = []) := by
 unfold law22zmemory at h
 refine Ctr.mk (args := []) Try.func16 rfl rfl (fun R0 w0 B => ?_)
 refine Tk_seq (Tk_region (Tops_step rfl (OpT_assign rfl rfl rfl rfl) ?_))
 refine Tops_nil (tZ [] [] [] rfl rfl rfl rfl ?_)
 refine Tk_seq (Tk_region (Tops_step rfl (OpT_build (v := .agg #[vU64 (0 : UInt64), vU64 (16384 : UInt64)]) rfl rfl rfl rfl (bldV (by kernel_rfl))) ?_))
 refine Tops_ex rfl (OpT_buildSlice (S := RegionS) (xs := [(Region.mk (0 : UInt64) (16384 : UInt64))]) (css := [[vU64 (0 : UInt64), vU64 (16384 : UInt64)]]) (cs := [vU64 (0 : UInt64), vU64 (16384 : UInt64)]) (e := 57) rfl rfl rfl rfl (bldF slF45 (by decide) (by kernel_rfl)) rfl rfl rfl rfl (rel_plainD (S := RegionS) (xs := [(Region.mk (0 : UInt64) (16384 : UInt64))]) (css := [[vU64 (0 : UInt64), vU64 (16384 : UInt64)]]) rfl rfl)) fun v1 => ?_
 refine Tops_step rfl (OpT_assign rfl rfl rfl rfl) ?_
 refine Tops_nil (tZ [0] [0] [] rfl rfl rfl rfl ?_)
 obtain rfl := Option.some.inj h
 exact Tk_retV rfl rfl (resA (vs := [v1]) rfl ⟨rfl, trivial⟩) [0] [] rfl rfl rfl ⟨v1, rfl, rfl, rfl⟩

set_option maxRecDepth 100000 in
set_option maxHeartbeats 4000000 in
theorem w_kit_Pick {np0 : Int} {m : Int} {r : Int} (h : kit_Pick np0 m = some r) :
  Ctr Try.prog 18 #[vI np0, vI m] [] []
   (fun rv own shr => rv = vI r ∧ own = [] ∧ shr = []) := by
 unfold kit_Pick at h
 refine Ctr.mk (args := [vI np0, vI m]) Try.func18 rfl rfl (fun R0 w0 B => ?_)
 refine Tk_seq (Tk_region (Tops_step rfl (OpT_assign rfl rfl rfl rfl) ?_))
 refine Tops_nil (tZ [0, 1] [] [] rfl rfl rfl rfl ?_)
 refine Tk_seq (Tk_seq (Tk_region (Tops_step rfl (OpT_move rfl rfl rfl rfl) ?_)))
 refine Tops_step rfl (OpT_bin rfl rfl rfl rfl rfl (bin_lss_i (a := m) (b := (1 : Int)))) ?_
 refine Tops_nil (tZ [0, 1, 6] [] [] rfl rfl rfl rfl ?_)
 rcases Bool.eq_false_or_eq_true (decide (m < (1 : Int))) with hg1 | hg1
 ·replace h := br_t hg1 h
  refine Tk_condT (congrArg (fun b => some (Value.bool b)) hg1) ?_
  refine Tk_seq (Tk_region (Tops_step rfl (OpT_assign rfl rfl rfl rfl) ?_))
  refine Tops_nil (tZ [4] [] [] rfl rfl rfl rfl ?_)
  obtain rfl := Option.some.inj h
  exact Tk_retV rfl rfl (resA (vs := [vI (0 : Int)]) rfl ⟨rfl, trivial⟩) [] [] rfl rfl rfl ⟨rfl, rfl, rfl⟩
 ·replace h := br_f hg1 h
  refine Tk_condF (congrArg (fun b => some (Value.bool b)) hg1) ?_
  refine Tk_skip (Tk_seq (Tk_region (Tops_step rfl (OpT_move rfl rfl rfl rfl) ?_)))
  refine Tops_step rfl (OpT_move rfl rfl rfl rfl) ?_
  obtain ⟨hc1, h⟩ := chk_e h
  refine Tops_step rfl (OpT_bin rfl rfl rfl rfl rfl (bin_rem_i (a := np0) (b := m) (not_t hc1))) ?_
  refine Tops_step rfl (OpT_assign rfl rfl rfl rfl) ?_
  refine Tops_nil (tZ [0, 1] [] [] rfl rfl rfl rfl ?_)
  refine Tk_seq (Tk_seq (Tk_region (Tops_step rfl (OpT_move rfl rfl rfl rfl) ?_)))
  refine Tops_step rfl (OpT_bin rfl rfl rfl rfl rfl (bin_lss_i (a := remi np0 m) (b := (0 : Int)))) ?_
  refine Tops_nil (tZ [0, 1, 11] [] [] rfl rfl rfl rfl ?_)
  rcases Bool.eq_false_or_eq_true (decide ((remi np0 m) < (0 : Int))) with hg2 | hg2
  ·replace h := br_t hg2 h
   refine Tk_condT (congrArg (fun b => some (Value.bool b)) hg2) ?_
   refine Tk_region (Tops_step rfl (OpT_move rfl rfl rfl rfl) ?_)
   refine Tops_step rfl (OpT_move rfl rfl rfl rfl) ?_
   refine Tops_step rfl (OpT_bin rfl rfl rfl rfl rfl (bin_add_i (a := remi np0 m) (b := m))) ?_
   refine Tops_step rfl (OpT_assign rfl rfl rfl rfl) ?_
   refine Tops_nil (tZ [0] [] [] rfl rfl rfl rfl ?_)
   refine Tk_seq (Tk_region (Tops_step rfl (OpT_move rfl rfl rfl rfl) ?_))
   refine Tops_step rfl (OpT_assign rfl rfl rfl rfl) ?_
   refine Tops_nil (tZ [4] [] [] rfl rfl rfl rfl ?_)
   obtain rfl := Option.some.inj h
   exact Tk_retV rfl rfl (resA (vs := [vI (wi ((remi np0 m) + m))]) rfl ⟨rfl, trivial⟩) [] [] rfl rfl rfl ⟨rfl, rfl, rfl⟩
  ·replace h := br_f hg2 h
   refine Tk_condF (congrArg (fun b => some (Value.bool b)) hg2) ?_
   refine Tk_skip (Tk_seq (Tk_region (Tops_step rfl (OpT_move rfl rfl rfl rfl) ?_)))
   refine Tops_step rfl (OpT_assign rfl rfl rfl rfl) ?_
   refine Tops_nil (tZ [4] [] [] rfl rfl rfl rfl ?_)
   obtain rfl := Option.some.inj h
   exact Tk_retV rfl rfl (resA (vs := [vI (remi np0 m)]) rfl ⟨rfl, trivial⟩) [] [] rfl rfl rfl ⟨rfl, rfl, rfl⟩

set_option maxRecDepth 100000 in
set_option maxHeartbeats 4000000 in
theorem w_kit_Own {b : List UInt8} {vb1 : Value} {r : (List UInt8)} (h : kit_Own b = some r) :
  Ctr Try.prog 49 #[vb1] [] [Fact.sl u8S vb1 b]
   (fun rv own shr => ∃ (w1 : Value), rv = w1 ∧ own = [(rowS u8S w1 r)] ∧ shr = []) := by
 unfold kit_Own at h
 refine Ctr.mk (args := [vb1]) Try.func49 rfl rfl (fun R0 w0 B => ?_)
 refine Tk_seq (Tk_region (Tops_step rfl (OpT_assign rfl rfl rfl rfl) ?_))
 refine Tops_nil (tZ [0] [] [0] rfl rfl rfl rfl ?_)
 refine Tk_seq (Tk_region (Tops_ex rfl (OpT_buildSlice (S := u8S) (xs := ([] : List UInt8)) (css := []) (cs := []) (e := 5) rfl rfl rfl rfl (bldF slF35 (by decide) (by kernel_rfl)) rfl rfl rfl rfl (rel_plainD (S := u8S) (xs := ([] : List UInt8)) (css := []) rfl rfl)) fun v1 => ?_))
 refine Tops_step rfl (OpT_move rfl rfl rfl rfl) ?_
 obtain ⟨hc1, h⟩ := chk_e h
 refine Tops_ex rfl (OpT_append rfl rfl rfl rfl rfl slF35 (i := 0) (j := 0) rfl rfl hc1) fun v2 => ?_
 refine Tops_step rfl (OpT_assign rfl rfl rfl rfl) ?_
 refine Tops_nil (tZ [2] [0] [] rfl rfl rfl rfl ?_)
 obtain rfl := Option.some.inj h
 exact Tk_retV rfl rfl (resA (vs := [v2]) rfl ⟨rfl, trivial⟩) [0] [] rfl rfl rfl ⟨v2, rfl, rfl, rfl⟩

theorem ws_kit_Own {b : List UInt8} {vb1 : Value} {r : (List UInt8)} (h : kit_Own b = some r) :
  Ctr Try.prog 49 #[vb1] [] [Fact.sl u8S vb1 b]
   (fun rv own shr => ∃ (w1 : Value), rv = w1 ∧ own = [] ∧ shr = [Fact.sl u8S w1 r]) :=
 Ctr.sh (w_kit_Own h) (by rintro w1 _ _ ⟨_, rfl, rfl, rfl⟩; exact ⟨[], _, _, _, _, rfl, w1, rfl, rfl, rfl⟩)

set_option maxRecDepth 100000 in
set_option maxHeartbeats 4000000 in
theorem w_kit_Req {rp0 : Req} {vrp01 : Value} {vrp02 : Value} {r : Req} (h : kit_Req rp0 = some r) :
  Ctr Try.prog 20 #[.agg #[vU32 rp0.Type_, vU64 rp0.Sector, vrp01, vI rp0.Room, vrp02]] [] [Fact.sl u8S vrp01 rp0.Data, Fact.sl RangeS vrp02 rp0.Ranges]
   (fun rv own shr => ∃ (w1 : Value), ∃ (w2 : Value), rv = .agg #[vU32 r.Type_, vU64 r.Sector, w1, vI r.Room, w2] ∧ own = [(rowS RangeS w2 r.Ranges)] ∧ shr = [Fact.sl u8S w1 r.Data]) := by
 unfold kit_Req at h
 refine Ctr.mk (args := [.agg #[vU32 rp0.Type_, vU64 rp0.Sector, vrp01, vI rp0.Room, vrp02]]) Try.func20 rfl rfl (fun R0 w0 B => ?_)
 refine Tk_seq (Tk_region (Tops_ex rfl (OpT_box rfl rfl rfl rfl) fun b1 => ?_))
 refine Tops_ex rfl (OpT_alloc rfl rfl rfl tyZ38) fun b2 => ?_
 refine Tops_nil (tZ [1, 2] [0, 1] [0, 1] rfl rfl rfl rfl ?_)
 refine Tk_seq (Tk_drawT (by kernel_rfl) ?_)
 refine TA_tb [0, 1, 3, 0, 0, 16, 63, 55, 255, 511, 1023] (by kernel_rfl) fun htb => ?_
 obtain ⟨own1, hx1, h⟩ := ob_e h
 obtain ⟨hc1, h⟩ := chk_e h
 refine TA_seg (lo := 0) (hi := 8) htb rfl rfl (by kernel_rfl) (fun c L a w => ∃ (v1 : Value), ∃ (v2 : Value), ∃ (v3 : Value), Sat c ⟨[(1, some (.pointer (some ⟨b1, 0, none⟩))), (2, some (.pointer (some ⟨b2, 0, none⟩))), (3, bif L 0 then some (.pointer (some ⟨b1, 2, none⟩)) else none), (4, bif L 1 then some (vrp01) else none), (5, bif L 2 then some (v1) else none), (6, bif L 3 then some (v2) else none), (7, bif L 4 then some (.pointer (some ⟨b1, 4, none⟩)) else none), (8, bif L 5 then some (vrp02) else none), (9, bif L 6 then some (v3) else none), (10, bif L 7 then some (.pointer (some ⟨b1, 2, none⟩)) else none)], [(some (cellsR b1 38 [vU32 rp0.Type_, vU64 rp0.Sector, vrp01, vI rp0.Room, vrp02]) : Option Res), (some (cellsR b2 38 [vU32 (0 : UInt32), vU64 (0 : UInt64), .slice none 0 0, vI (0 : Int), .slice none 0 0]) : Option Res), (bif L 6 then some (rowS RangeS v3 rp0.Ranges) else bif L 3 then some (rowS RangeS v2 ([] : List Range)) else none : Option Res)], [Fact.sl u8S vrp01 rp0.Data, Fact.sl RangeS vrp02 rp0.Ranges, (bif L 2 then Fact.sl u8S v1 own1 else Fact.tt)]⟩ a w) [([], [1, 2, 6, 7]), ([0], [2, 6, 7]), ([0, 1], [6, 7]), ([], [6]), ([], [5, 6, 7]), ([4], [6, 7]), ([0, 1, 2, 3, 4, 5], []), ([0, 1, 2, 4, 5], [])] rfl (by kernel_rfl) ?_ (steps_cons ?_ (steps_cons ?_ (steps_cons ?_ (steps_cons ?_ (steps_cons ?_ (steps_cons ?_ (steps_cons ?_ (steps_cons ?_ (steps_nil))))))))) ?_
 ·intro a w hs
  exact ⟨undef, undef, undef, hs.startF [3, 4, 5, 6, 7, 8, 9, 10] [0, 1, 2] [0, 1, 2] rfl rfl rfl rfl⟩
 ·intro L a w hv K Q hK
  obtain ⟨v1, v2, v3, hs⟩ := hv
  refine wpOp_go rfl rfl hs (OpT_fieldC rfl rfl rfl rfl fldF38x2) ?_
  rintro _ rfl a' w' hs'
  exact hK a' w' ⟨v1, v2, v3, hs'.putF (i := 2) rfl [0, 1, 2] [0, 1, 2] rfl rfl rfl rfl⟩
 ·intro L a w hv K Q hK
  obtain ⟨v1, v2, v3, hs⟩ := hv
  refine wpOp_go rfl rfl hs (OpT_loadC rfl rfl rfl rfl tyF35 (i := 0) rfl rfl) ?_
  rintro _ rfl a' w' hs'
  exact hK a' w' ⟨v1, v2, v3, hs'.putF (i := 3) rfl [0, 1, 2] [0, 1, 2] rfl rfl rfl rfl⟩
 ·intro L a w hv K Q hK
  obtain ⟨v1, v2, v3, hs⟩ := hv
  refine wpOp_go rfl rfl hs (OpT_call (ws_kit_Own hx1) [] [0] rfl rfl rfl rfl rfl callee49 rfl rfl rfl rfl) ?_
  rintro _ ⟨v1', _, _, ⟨_, rfl, rfl, rfl⟩, rfl⟩ a' w' hs'
  exact hK a' w' ⟨v1', v2, v3, hs'.putF (i := 4) rfl [0, 1, 2] [0, 1, 3] rfl rfl rfl rfl⟩
 ·intro L a w hv K Q hK
  obtain ⟨v1, v2, v3, hs⟩ := hv
  refine wpOp_go rfl rfl hs (OpT_buildSlice (S := RangeS) (xs := ([] : List Range)) (css := []) (cs := []) (e := 90) rfl rfl rfl rfl (bldF slF36 (by decide) (by kernel_rfl)) rfl rfl rfl rfl (rel_plainD (S := RangeS) (xs := ([] : List Range)) (css := []) rfl rfl)) ?_
  rintro _ ⟨v2', rfl⟩ a' w' hs'
  exact hK a' w' ⟨v1, v2', v3, hs'.putF (i := 5) rfl [0, 1, 3] [0, 1, 2] rfl rfl rfl rfl⟩
 ·intro L a w hv K Q hK
  obtain ⟨v1, v2, v3, hs⟩ := hv
  refine wpOp_go rfl rfl hs (OpT_fieldC rfl rfl rfl rfl fldF38x4) ?_
  rintro _ rfl a' w' hs'
  exact hK a' w' ⟨v1, v2, v3, hs'.putF (i := 6) rfl [0, 1, 2] [0, 1, 2] rfl rfl rfl rfl⟩
 ·intro L a w hv K Q hK
  obtain ⟨v1, v2, v3, hs⟩ := hv
  refine wpOp_go rfl rfl hs (OpT_loadC rfl rfl rfl rfl tyF36 (i := 0) rfl rfl) ?_
  rintro _ rfl a' w' hs'
  exact hK a' w' ⟨v1, v2, v3, hs'.putF (i := 7) rfl [0, 1, 2] [0, 1, 2] rfl rfl rfl rfl⟩
 ·intro L a w hv K Q hK
  obtain ⟨v1, v2, v3, hs⟩ := hv
  refine wpOp_go rfl rfl hs (OpT_append rfl rfl rfl rfl rfl slF36 (i := 2) (j := 1) rfl rfl hc1) ?_
  rintro _ ⟨v3', rfl⟩ a' w' hs'
  exact hK a' w' ⟨v1, v2, v3', hs'.putF (i := 8) rfl [0, 1, 2] [0, 1, 2] rfl rfl rfl rfl⟩
 ·intro L a w hv K Q hK
  obtain ⟨v1, v2, v3, hs⟩ := hv
  refine wpOp_go rfl rfl hs (OpT_fieldC rfl rfl rfl rfl fldF38x2) ?_
  rintro _ rfl a' w' hs'
  exact hK a' w' ⟨v1, v2, v3, hs'.putF (i := 9) rfl [0, 1, 2] [0, 1, 2] rfl rfl rfl rfl⟩
 ·intro L a w hL hv
  rw [allTrue hL] at hv
  obtain ⟨v1, v2, v3, hs⟩ := hv
  refine gZ hs [1, 2, 5, 9, 10] [0, 1, 2] [0, 1, 2] rfl rfl rfl rfl ?_
  clear hs hL
  refine TA_step htb (by kernel_rfl) rfl rfl (OpT_storeV (cs' := [vU32 rp0.Type_, vU64 rp0.Sector, v1, vI rp0.Room, vrp02]) rfl rfl rfl rfl tyF35 (i := 0) rfl (is_sl (i := 2) rfl) rfl rfl) ?_
  refine TA_step htb (by kernel_rfl) rfl rfl (OpT_fieldC rfl rfl rfl rfl fldF38x4) ?_
  refine TA_step htb (by kernel_rfl) rfl rfl (OpT_storeV (cs' := [vU32 rp0.Type_, vU64 rp0.Sector, v1, vI rp0.Room, v3]) rfl rfl rfl rfl tyF36 (i := 0) rfl (is_row (i := 2) rfl) rfl rfl) ?_
  refine TA_end rfl ?_
  refine tZ [1, 2] [0, 1, 2] [2] rfl rfl rfl rfl ?_
  refine Tk_seq (Tk_region (Tops_step rfl (OpT_loadCA (vs := [vU32 rp0.Type_, vU64 rp0.Sector, v1, vI rp0.Room, v3]) rfl rfl rfl rfl tyF38 (i := 0) rfl rfl rfl) ?_))
  refine Tops_step rfl (OpT_storeA2 (fun z0 z1 => [vU32 rp0.Type_, vU64 rp0.Sector, z0, vI rp0.Room, z1]) (cs' := [vU32 rp0.Type_, vU64 rp0.Sector, v1, vI rp0.Room, v3]) rfl rfl rfl rfl tyF38 (i := 1) rfl (is_sl (i := 0) rfl) (is_row (i := 2) rfl) (fun _ _ _ _ _ _ => rfl) rfl rfl rfl) ?_
  refine Tops_nil (tZ [2] [1, 2] [0] rfl rfl rfl rfl ?_)
  obtain rfl := Option.some.inj h
  exact Tk_retV rfl rfl (resA (vs := [.agg #[vU32 rp0.Type_, vU64 rp0.Sector, v1, vI rp0.Room, v3]]) rfl ⟨⟨_, 0, _, _, _, rfl, rfl, .inl ⟨tyF38, rfl, rfl⟩⟩, trivial⟩) [1] [0] rfl rfl rfl ⟨v1, v3, rfl, rfl, rfl⟩

set_option maxRecDepth 100000 in
set_option maxHeartbeats 4000000 in
theorem w_gmem_Mem_Image {m : gmem_Mem} {b_m : Nat} {vm1 : Value} {vm2 : Value} {vsm1 : List Value} {r : (List UInt8)} (h : gmem_Mem_Image m = some r) :
  Ctr Try.prog 21 #[.pointer (some ⟨b_m, 0, none⟩)] [(cellsR b_m 83 [vm1, vm2]), (rowsX u8S true vm2 vsm1 m.b none)] [Fact.sl RegionS vm1 m.l]
   (fun rv own shr => ∃ (w1 : Value), rv = w1 ∧ own = [(cellsR b_m 83 [vm1, vm2]), (rowsX u8S true vm2 vsm1 m.b none), (rowS u8S w1 r)] ∧ shr = []) := by
 unfold gmem_Mem_Image at h
 refine Ctr.mk (args := [.pointer (some ⟨b_m, 0, none⟩)]) Try.func21 rfl rfl (fun R0 w0 B => ?_)
 refine Tk_seq (Tk_region (Tops_step rfl (OpT_assign rfl rfl rfl rfl) ?_))
 refine Tops_nil (tZ [0] [0, 1] [0] rfl rfl rfl rfl ?_)
 refine Tk_seq (Tk_seq (Tk_region (Tops_step rfl (OpT_move rfl rfl rfl rfl) ?_)))
 obtain ⟨made1, hx1, h⟩ := ob_e h
 refine Tops_exP rfl (OpT_callP [2, 3] (w_gmem_Mem_made hx1) [0, 1] [0] rfl rfl rfl rfl rfl callee45 rfl rfl rfl rfl rfl) ?_
 rintro _ ⟨_, _, _, ⟨rfl, rfl, rfl⟩, rfl⟩
 refine Tops_step rfl (OpT_not rfl rfl rfl rfl) ?_
 refine Tops_nil (tZ [0, 5] [0, 1] [0] rfl rfl rfl rfl ?_)
 refine Tk_condF (congrArg (fun b => some (Value.bool b)) (congrArg (!·) (Option.some.inj (show some true = some made1 from hx1)).symm)) ?_
 refine Tk_skip (Tk_seq (Tk_region (Tops_step rfl (OpT_move rfl rfl rfl rfl) ?_)))
 refine Tops_step rfl (OpT_nilCheckP rfl rfl rfl rfl) ?_
 refine Tops_step rfl (OpT_fieldC rfl rfl rfl rfl fldF83x1) ?_
 refine Tops_step rfl (OpT_loadC rfl rfl rfl rfl tyF81 (i := 0) rfl rfl) ?_
 obtain ⟨concat1, hx2, h⟩ := ob_e h
 refine Tops_exP rfl (OpT_callB [1] [0, 1, 2] (w_slices_Concat_bytebyte hx2) [] rfl rfl rfl rfl rfl callee50 rfl rfl rfl rfl rfl rfl (bor_cons (bor_rows 1 rfl rfl) bor_nil) (by rintro _ _ _ ⟨_, rfl, rfl, rfl⟩; exact ⟨rfl, (ri_cons (ri_row (S := u8S) rfl _ _) ri_nil)⟩)) ?_
 rintro _ ⟨v1, _, _, ⟨_, rfl, rfl, rfl⟩, rfl⟩
 refine Tops_step rfl (OpT_assign rfl rfl rfl rfl) ?_
 refine Tops_nil (tZ [2] [0, 1, 2] [0] rfl rfl rfl rfl ?_)
 obtain rfl := Option.some.inj h
 exact Tk_retV rfl rfl (resA (vs := [v1]) rfl ⟨rfl, trivial⟩) [0, 1, 2] [] rfl rfl rfl ⟨v1, rfl, rfl, rfl⟩

set_option maxRecDepth 100000 in
set_option maxHeartbeats 4000000 in
theorem w_ref_Mem_Image02 {m : dumbwaiterref02_Mem} {b_m : Nat} {vm1 : Value} {vm2 : Value} {vsm1 : List Value} {r : (List UInt8)} (h : ref_Mem_Image02 m = some r) :
  Ctr Try.prog 30 #[.pointer (some ⟨b_m, 0, none⟩)] [(cellsR b_m 97 [vm1, vm2]), (rowsX u8S false vm2 vsm1 m.B none)] [Fact.sl RegionS vm1 m.L]
   (fun rv own shr => ∃ (w1 : Value), rv = w1 ∧ own = [(cellsR b_m 97 [vm1, vm2]), (rowsX u8S false vm2 vsm1 m.B none), (rowS u8S w1 r)] ∧ shr = []) := by
 unfold ref_Mem_Image02 at h
 refine Ctr.mk (args := [.pointer (some ⟨b_m, 0, none⟩)]) Try.func30 rfl rfl (fun R0 w0 B => ?_)
 refine Tk_seq (Tk_region (Tops_step rfl (OpT_assign rfl rfl rfl rfl) ?_))
 refine Tops_nil (tZ [0] [0, 1] [0] rfl rfl rfl rfl ?_)
 refine Tk_seq (Tk_region (Tops_step rfl (OpT_assign rfl rfl rfl rfl) ?_))
 refine Tops_nil (Tk_seq (Tk_seq (Tk_region (Tops_step rfl (OpT_assign rfl rfl rfl rfl) ?_))))
 refine Tops_nil (Tk_block (Tk_nilrow u8S ?_))
 refine Tk_loopS (σ := (List UInt8) × Int × Value) [0, 3, 4] [0, 1, 2] [0] (fun s => ⟨[(0, some (.pointer (some ⟨b_m, 0, none⟩))), (3, some (s.2.2)), (4, some (vI s.2.1))], [some (cellsR b_m 97 [vm1, vm2]), some (rowsX u8S false vm2 vsm1 m.B none), some (rowS u8S s.2.2 s.1)], [Fact.sl RegionS vm1 m.L]⟩) (fun nf1 s => ref_Mem_Image02L1 m nf1 s.1 s.2.1 = some r) fuel ([], (0 : Int), (.slice none 0 0)) h rfl rfl rfl rfl rfl (fun s h => by cases h) ?_
 rintro nf1 ⟨out1, i1, v1⟩ h
 replace h : ref_Mem_Image02L1B m (ref_Mem_Image02L1 m nf1) out1 i1 = some r := h
 unfold ref_Mem_Image02L1B at h
 refine Tk_seq (Tk_seq (Tk_region (Tops_step rfl (OpT_move rfl rfl rfl rfl) ?_)))
 refine Tops_step rfl (OpT_move rfl rfl rfl rfl) ?_
 refine Tops_step rfl (OpT_nilCheckP rfl rfl rfl rfl) ?_
 refine Tops_step rfl (OpT_fieldC rfl rfl rfl rfl fldF97x1) ?_
 refine Tops_step rfl (OpT_loadC rfl rfl rfl rfl tyF81 (i := 0) rfl rfl) ?_
 refine Tops_step rfl (OpT_lenRows rfl rfl rfl rfl Try.underlying81 (i := 1) rfl) ?_
 refine Tops_step rfl (OpT_bin rfl rfl rfl rfl rfl (bin_lss_i (a := i1) (b := len m.B))) ?_
 refine Tops_nil (tZ [0, 3, 4, 11] [0, 1, 2] [0] rfl rfl rfl rfl ?_)
 rcases Bool.eq_false_or_eq_true (decide (i1 < (len m.B))) with hg1 | hg1
 ·replace h := br_t hg1 h
  refine Tk_condT (congrArg (fun b => some (Value.bool b)) hg1) ?_
  refine Tk_skip (Tk_seq (Tk_block (Tk_region (Tops_step rfl (OpT_move rfl rfl rfl rfl) ?_))))
  refine Tops_step rfl (OpT_move rfl rfl rfl rfl) ?_
  refine Tops_step rfl (OpT_nilCheckP rfl rfl rfl rfl) ?_
  refine Tops_step rfl (OpT_fieldC rfl rfl rfl rfl fldF97x1) ?_
  refine Tops_step rfl (OpT_loadC rfl rfl rfl rfl tyF81 (i := 0) rfl rfl) ?_
  refine Tops_step rfl (OpT_move rfl rfl rfl rfl) ?_
  obtain ⟨row1, hx1, h⟩ := ob_e h
  refine Tops_step rfl (OpT_idxRows rfl rfl rfl rfl rfl slF81 (i := 1) rfl hx1) ?_
  refine Tops_vs (vs_focus (i := 1) (j := i1) rfl hx1) ?_
  refine Tops_step rfl (OpT_loadRow (m := i1) rfl rfl rfl rfl tyF35 (i := 1) rfl) ?_
  obtain ⟨hc1, h⟩ := chk_e h
  refine Tops_ex rfl (OpT_appendB (S := u8S) rfl rfl rfl rfl rfl rfl slF35 (i := 2) (j := 3) rfl rfl hc1) fun v2 => ?_
  refine Tops_step rfl (OpT_assign rfl rfl rfl rfl) ?_
  refine Tops_nil (tZ [0, 3, 4] [0, 1, 2, 3] [0] rfl rfl rfl rfl ?_)
  refine Tk_blk (Tk_vs (vs_unfocus0 (i := 1) (q := 3) rfl rfl rfl hx1) ?_)
  refine Tk_region (Tops_step rfl (OpT_move rfl rfl rfl rfl) ?_)
  refine Tops_step rfl (OpT_bin rfl rfl rfl rfl rfl (bin_add_i (a := i1) (b := (1 : Int)))) ?_
  refine Tops_step rfl (OpT_assign rfl rfl rfl rfl) ?_
  refine Tops_nil (tZ [0, 3, 4] [0, 1, 2] [0] rfl rfl rfl rfl ?_)
  exact Tk_backS (out1 ++ row1, wi (i1 + (1 : Int)), v2) h [0, 3, 4] [0, 1, 2] [0] rfl rfl rfl rfl rfl
 ·replace h := br_f hg1 h
  refine Tk_condF (congrArg (fun b => some (Value.bool b)) hg1) ?_
  refine Tk_exit _ rfl ?_
  refine Tk_seq (Tk_region (Tops_step rfl (OpT_move rfl rfl rfl rfl) ?_))
  refine Tops_step rfl (OpT_assign rfl rfl rfl rfl) ?_
  refine Tops_nil (tZ [2] [0, 1, 2] [0] rfl rfl rfl rfl ?_)
  obtain rfl := Option.some.inj h
  exact Tk_retV rfl rfl (resA (vs := [v1]) rfl ⟨rfl, trivial⟩) [0, 1, 2] [] rfl rfl rfl ⟨v1, rfl, rfl, rfl⟩

set_option maxRecDepth 100000 in
set_option maxHeartbeats 4000000 in
theorem w_ref_word21 {b : List UInt8} {arg1 : UInt64} {np2 : Int} {v_b : Value} {r : (List UInt8)} (h : ref_word21 b arg1 np2 = some r) :
  Ctr Try.prog 51 #[v_b, vU64 arg1, vI np2] [(rowS u8S v_b b)] []
   (fun rv own shr => ∃ (w1 : Value), rv = w1 ∧ own = [(rowS u8S w1 r)] ∧ shr = []) := by
 unfold ref_word21 at h
 refine Ctr.mk (args := [v_b, vU64 arg1, vI np2]) Try.func51 rfl rfl (fun R0 w0 B => ?_)
 refine Tk_seq (Tk_region (Tops_step rfl (OpT_assign rfl rfl rfl rfl) ?_))
 refine Tops_nil (tZ [0, 1, 2] [0] [] rfl rfl rfl rfl ?_)
 refine Tk_seq (Tk_seq (Tk_region (Tops_step rfl (OpT_assign rfl rfl rfl rfl) ?_)))
 refine Tops_nil (Tk_block (Tk_loopS (σ := (List UInt8) × Int × Value) [0, 1, 2, 7] [0] [] (fun s => ⟨[(0, some (s.2.2)), (1, some (vU64 arg1)), (2, some (vI np2)), (7, some (vI s.2.1))], [some (rowS u8S s.2.2 s.1)], []⟩) (fun nf1 s => ref_word21L1 arg1 np2 nf1 s.1 s.2.1 = some r) fuel (b, (0 : Int), v_b) h rfl rfl rfl rfl rfl (fun s h => by cases h) ?_))
 rintro nf1 ⟨b1, i1, v1⟩ h
 replace h : ref_word21L1B arg1 np2 (ref_word21L1 arg1 np2 nf1) b1 i1 = some r := h
 unfold ref_word21L1B at h
 refine Tk_seq (Tk_seq (Tk_region (Tops_step rfl (OpT_move rfl rfl rfl rfl) ?_)))
 refine Tops_step rfl (OpT_move rfl rfl rfl rfl) ?_
 refine Tops_step rfl (OpT_bin rfl rfl rfl rfl rfl (bin_lss_i (a := i1) (b := np2))) ?_
 refine Tops_nil (tZ [0, 1, 2, 7, 10] [0] [] rfl rfl rfl rfl ?_)
 rcases Bool.eq_false_or_eq_true (decide (i1 < np2)) with hg1 | hg1
 ·replace h := br_t hg1 h
  refine Tk_condT (congrArg (fun b => some (Value.bool b)) hg1) ?_
  refine Tk_skip (Tk_seq (Tk_block (Tk_region (Tops_step rfl (OpT_move rfl rfl rfl rfl) ?_))))
  refine Tops_step rfl (OpT_move rfl rfl rfl rfl) ?_
  refine Tops_step rfl (OpT_move rfl rfl rfl rfl) ?_
  refine Tops_step rfl (OpT_bin rfl rfl rfl rfl rfl (bin_mul_i (a := (8 : Int)) (b := i1))) ?_
  refine Tops_step rfl (OpT_cnv rfl rfl rfl rfl (cnv_i_u64 (n := wi ((8 : Int) * i1)) Try.underlying3 Try.underlying95)) ?_
  refine Tops_step rfl (OpT_bin rfl rfl rfl rfl rfl (bin_shr_u64_u64 (a := arg1) (n := u64 (wi ((8 : Int) * i1))))) ?_
  refine Tops_step rfl (OpT_cnv rfl rfl rfl rfl (cnv_u64_u8 (n := shr64 arg1 ((u64 (wi ((8 : Int) * i1))).toNat)) Try.underlying29 Try.underlying5)) ?_
  refine Tops_ex rfl (OpT_buildSlice (S := u8S) (xs := [(shr64 arg1 ((u64 (wi ((8 : Int) * i1))).toNat)).toUInt8]) (css := [[vU8 ((shr64 arg1 ((u64 (wi ((8 : Int) * i1))).toNat)).toUInt8)]]) (cs := [vU8 ((shr64 arg1 ((u64 (wi ((8 : Int) * i1))).toNat)).toUInt8)]) (e := 5) rfl rfl rfl rfl (bldF slF35 (by decide) (by kernel_rfl)) rfl rfl rfl rfl (rel_plainD (S := u8S) (xs := [(shr64 arg1 ((u64 (wi ((8 : Int) * i1))).toNat)).toUInt8]) (css := [[vU8 ((shr64 arg1 ((u64 (wi ((8 : Int) * i1))).toNat)).toUInt8)]]) rfl rfl)) fun v2 => ?_
  obtain ⟨hc1, h⟩ := chk_e h
  refine Tops_ex rfl (OpT_appendB (S := u8S) rfl rfl rfl rfl rfl rfl slF35 (i := 0) (j := 1) rfl rfl hc1) fun v3 => ?_
  refine Tops_step rfl (OpT_assign rfl rfl rfl rfl) ?_
  refine Tops_nil (tZ [0, 1, 2, 7] [0] [] rfl rfl rfl rfl ?_)
  refine Tk_blk (Tk_region (Tops_step rfl (OpT_move rfl rfl rfl rfl) ?_))
  refine Tops_step rfl (OpT_bin rfl rfl rfl rfl rfl (bin_add_i (a := i1) (b := (1 : Int)))) ?_
  refine Tops_step rfl (OpT_assign rfl rfl rfl rfl) ?_
  refine Tops_nil (tZ [0, 1, 2, 7] [0] [] rfl rfl rfl rfl ?_)
  exact Tk_backS (b1 ++ [(shr64 arg1 ((u64 (wi ((8 : Int) * i1))).toNat)).toUInt8], wi (i1 + (1 : Int)), v3) h [0, 1, 2, 7] [0] [] rfl rfl rfl rfl rfl
 ·replace h := br_f hg1 h
  refine Tk_condF (congrArg (fun b => some (Value.bool b)) hg1) ?_
  refine Tk_exit _ rfl ?_
  refine Tk_seq (Tk_region (Tops_step rfl (OpT_move rfl rfl rfl rfl) ?_))
  refine Tops_step rfl (OpT_assign rfl rfl rfl rfl) ?_
  refine Tops_nil (tZ [6] [0] [] rfl rfl rfl rfl ?_)
  obtain rfl := Option.some.inj h
  exact Tk_retV rfl rfl (resA (vs := [v1]) rfl ⟨rfl, trivial⟩) [0] [] rfl rfl rfl ⟨v1, rfl, rfl, rfl⟩

set_option maxRecDepth 100000 in
set_option maxHeartbeats 4000000 in
theorem w_ref_Bytes21 {rp0 : Req} {vrp01 : Value} {vrp02 : Value} {r : ((List UInt8) × Int)} (h : ref_Bytes21 rp0 = some r) :
  Ctr Try.prog 22 #[.agg #[vU32 rp0.Type_, vU64 rp0.Sector, vrp01, vI rp0.Room, vrp02]] [] [Fact.sl u8S vrp01 rp0.Data, Fact.sl RangeS vrp02 rp0.Ranges]
   (fun rv own shr => ∃ (w1 : Value), rv = .tuple #[w1, vI r.2] ∧ own = [(rowS u8S w1 r.1)] ∧ shr = []) := by
 unfold ref_Bytes21 at h
 refine Ctr.mk (args := [.agg #[vU32 rp0.Type_, vU64 rp0.Sector, vrp01, vI rp0.Room, vrp02]]) Try.func22 rfl rfl (fun R0 w0 B => ?_)
 refine Tk_seq (Tk_region (Tops_ex rfl (OpT_box rfl rfl rfl rfl) fun b1 => ?_))
 refine Tops_step rfl (OpT_assign rfl rfl rfl rfl) ?_
 refine Tops_step rfl (OpT_assign rfl rfl rfl rfl) ?_
 refine Tops_nil (tZ [1] [0] [0, 1] rfl rfl rfl rfl ?_)
 refine Tk_seq (Tk_region (Tops_step rfl (OpT_loadCA (vs := [vU32 rp0.Type_, vU64 rp0.Sector, vrp01, vI rp0.Room, vrp02]) rfl rfl rfl rfl tyF38 (i := 0) rfl rfl rfl) ?_))
 obtain ⟨check1, hx1, h⟩ := ob_e h
 refine Tops_exP rfl (OpT_call (w_ref_Check21 hx1) [] [0, 1] rfl rfl rfl rfl rfl callee35 rfl rfl rfl rfl) ?_
 rintro _ ⟨_, _, _, ⟨rfl, rfl, rfl⟩, rfl⟩
 refine Tops_step rfl (OpT_assign rfl rfl rfl rfl) ?_
 refine Tops_nil (tZ [1, 4] [0] [0, 1] rfl rfl rfl rfl ?_)
 refine Tk_seq (Tk_seq (Tk_region (Tops_step rfl (OpT_move rfl rfl rfl rfl) ?_)))
 refine Tops_step rfl (OpT_bin rfl rfl rfl rfl rfl (bin_neq_i (a := check1) (b := (0 : Int)))) ?_
 refine Tops_nil (tZ [1, 4, 11] [0] [0, 1] rfl rfl rfl rfl ?_)
 rcases Bool.eq_false_or_eq_true (check1 != (0 : Int)) with hg1 | hg1
 ·replace h := br_t hg1 h
  refine Tk_condT (congrArg (fun b => some (Value.bool b)) hg1) ?_
  refine Tk_seq (Tk_region (Tops_step rfl (OpT_move rfl rfl rfl rfl) ?_))
  refine Tops_step rfl (OpT_assign rfl rfl rfl rfl) ?_
  refine Tops_step rfl (OpT_assign rfl rfl rfl rfl) ?_
  refine Tops_nil (tZ [2, 3] [] [] rfl rfl rfl rfl ?_)
  refine Tk_nilrow u8S ?_
  obtain rfl := Option.some.inj h
  exact Tk_retV rfl rfl (resA (vs := [.slice none 0 0, vI check1]) rfl ⟨rfl, rfl, trivial⟩) [0] [] rfl rfl rfl ⟨(.slice none 0 0), rfl, rfl, rfl⟩
 ·replace h := br_f hg1 h
  refine Tk_condF (congrArg (fun b => some (Value.bool b)) hg1) ?_
  refine Tk_skip (Tk_seq (Tk_drawT (by kernel_rfl) ?_))
  refine TA_tb [0, 1, 3, 7, 15, 0, 32, 127, 255] (by kernel_rfl) fun htb => ?_
  refine aZ [1] [0] [0, 1] rfl rfl rfl rfl ?_
  refine TA_nilrow u8S ?_
  obtain ⟨word1, hx2, h⟩ := ob_e h
  obtain ⟨word2, hx3, h⟩ := ob_e h
  refine TA_seg (lo := 0) (hi := 7) htb rfl rfl (by kernel_rfl) (fun c L a w => ∃ (v1 : Value), ∃ (v2 : Value), Sat c ⟨[(1, some (.pointer (some ⟨b1, 0, none⟩))), (13, bif L 0 then some (.pointer (some ⟨b1, 0, none⟩)) else none), (14, bif L 1 then some (vU32 rp0.Type_) else none), (15, bif L 2 then some (vU64 rp0.Type_.toUInt64) else none), (16, bif L 3 then some (v1) else none), (17, bif L 4 then some (v2) else none), (18, bif L 5 then some (.pointer (some ⟨b1, 1, none⟩)) else none), (19, bif L 6 then some (vU64 rp0.Sector) else none)], [(some (cellsR b1 38 [vU32 rp0.Type_, vU64 rp0.Sector, vrp01, vI rp0.Room, vrp02]) : Option Res), (bif L 3 then none else some (rowS u8S (.slice none 0 0) ([] : List UInt8)) : Option Res), (bif L 4 then none else bif L 3 then some (rowS u8S v1 word1) else none : Option Res), (bif L 4 then some (rowS u8S v2 word2) else none : Option Res)], [Fact.sl u8S vrp01 rp0.Data, Fact.sl RangeS vrp02 rp0.Ranges]⟩ a w) [([], [1, 2, 3, 4]), ([0], [2, 3, 4]), ([0, 1], [3, 4]), ([0, 1, 2], [4]), ([0, 1, 2, 3], []), ([], [6]), ([5], [])] rfl (by kernel_rfl) ?_ (steps_cons ?_ (steps_cons ?_ (steps_cons ?_ (steps_cons ?_ (steps_cons ?_ (steps_cons ?_ (steps_cons ?_ (steps_nil)))))))) ?_
  ·intro a w hs
   exact ⟨undef, undef, hs.startF [13, 14, 15, 16, 17, 18, 19] [0, 1, 2, 3] [0, 1] rfl rfl rfl rfl⟩
  ·intro L a w hv K Q hK
   obtain ⟨v1, v2, hs⟩ := hv
   refine wpOp_go rfl rfl hs (OpT_fieldC rfl rfl rfl rfl fldF38x0) ?_
   rintro _ rfl a' w' hs'
   exact hK a' w' ⟨v1, v2, hs'.putF (i := 1) rfl [0, 1, 2, 3] [0, 1] rfl rfl rfl rfl⟩
  ·intro L a w hv K Q hK
   obtain ⟨v1, v2, hs⟩ := hv
   refine wpOp_go rfl rfl hs (OpT_loadC rfl rfl rfl rfl tyF30 (i := 0) rfl rfl) ?_
   rintro _ rfl a' w' hs'
   exact hK a' w' ⟨v1, v2, hs'.putF (i := 2) rfl [0, 1, 2, 3] [0, 1] rfl rfl rfl rfl⟩
  ·intro L a w hv K Q hK
   obtain ⟨v1, v2, hs⟩ := hv
   refine wpOp_go rfl rfl hs (OpT_cnv rfl rfl rfl rfl (cnv_u32_u64 (n := rp0.Type_) Try.underlying30 Try.underlying29)) ?_
   rintro _ rfl a' w' hs'
   exact hK a' w' ⟨v1, v2, hs'.putF (i := 3) rfl [0, 1, 2, 3] [0, 1] rfl rfl rfl rfl⟩
  ·intro L a w hv K Q hK
   obtain ⟨v1, v2, hs⟩ := hv
   refine wpOp_go rfl rfl hs (OpT_call (w_ref_word21 hx2) [1] [] rfl rfl rfl rfl rfl callee51 rfl rfl rfl rfl) ?_
   rintro _ ⟨v1', _, _, ⟨_, rfl, rfl, rfl⟩, rfl⟩ a' w' hs'
   exact hK a' w' ⟨v1', v2, hs'.putF (i := 4) rfl [0, 1, 4, 3] [0, 1] rfl rfl rfl rfl⟩
  ·intro L a w hv K Q hK
   obtain ⟨v1, v2, hs⟩ := hv
   refine wpOp_go rfl rfl hs (OpT_call (w_ref_word21 hx3) [2] [] rfl rfl rfl rfl rfl callee51 rfl rfl rfl rfl) ?_
   rintro _ ⟨v2', _, _, ⟨_, rfl, rfl, rfl⟩, rfl⟩ a' w' hs'
   exact hK a' w' ⟨v1, v2', hs'.putF (i := 5) rfl [0, 1, 2, 4] [0, 1] rfl rfl rfl rfl⟩
  ·intro L a w hv K Q hK
   obtain ⟨v1, v2, hs⟩ := hv
   refine wpOp_go rfl rfl hs (OpT_fieldC rfl rfl rfl rfl fldF38x1) ?_
   rintro _ rfl a' w' hs'
   exact hK a' w' ⟨v1, v2, hs'.putF (i := 6) rfl [0, 1, 2, 3] [0, 1] rfl rfl rfl rfl⟩
  ·intro L a w hv K Q hK
   obtain ⟨v1, v2, hs⟩ := hv
   refine wpOp_go rfl rfl hs (OpT_loadC rfl rfl rfl rfl tyF29 (i := 0) rfl rfl) ?_
   rintro _ rfl a' w' hs'
   exact hK a' w' ⟨v1, v2, hs'.putF (i := 7) rfl [0, 1, 2, 3] [0, 1] rfl rfl rfl rfl⟩
  ·intro L a w hL hv
   rw [allTrue hL] at hv
   obtain ⟨v1, v2, hs⟩ := hv
   refine gZ hs [1, 17, 19] [0, 3] [0, 1] rfl rfl rfl rfl ?_
   clear hs hL
   obtain ⟨word3, hx4, h⟩ := ob_e h
   refine TA_exP htb (by kernel_rfl) rfl rfl (OpT_call (w_ref_word21 hx4) [1] [] rfl rfl rfl rfl rfl callee51 rfl rfl rfl rfl) ?_
   rintro _ ⟨v3, _, _, ⟨_, rfl, rfl, rfl⟩, rfl⟩
   refine TA_step htb (by kernel_rfl) rfl rfl (OpT_assign rfl rfl rfl rfl) ?_
   refine TA_end rfl ?_
   refine tZ [1, 5] [0, 2] [0, 1] rfl rfl rfl rfl ?_
   refine Tk_seq (Tk_seq (Tk_region (Tops_step rfl (OpT_assign rfl rfl rfl rfl) ?_)))
   refine Tops_nil (Tk_block (Tk_loopS (σ := UInt32 × UInt64 × (List UInt8) × Int × (List Range) × (List UInt8) × Int × Value × Value × Value) [1, 5, 6] [0, 1] [0, 1] (fun s => ⟨[(1, some (.pointer (some ⟨b1, 0, none⟩))), (5, some (s.2.2.2.2.2.2.2.2.2)), (6, some (vI s.2.2.2.2.2.2.1))], [some (cellsR b1 38 [vU32 s.1, vU64 s.2.1, s.2.2.2.2.2.2.2.1, vI s.2.2.2.1, s.2.2.2.2.2.2.2.2.1]), some (rowS u8S s.2.2.2.2.2.2.2.2.2 s.2.2.2.2.2.1)], [Fact.sl u8S s.2.2.2.2.2.2.2.1 s.2.2.1, Fact.sl RangeS s.2.2.2.2.2.2.2.2.1 s.2.2.2.2.1]⟩) (fun nf1 s => ref_Bytes21L1 nf1 s.1 s.2.1 s.2.2.1 s.2.2.2.1 s.2.2.2.2.1 s.2.2.2.2.2.1 s.2.2.2.2.2.2.1 = some r) fuel (rp0.Type_, rp0.Sector, rp0.Data, rp0.Room, rp0.Ranges, word3, (0 : Int), vrp01, vrp02, v3) h rfl rfl rfl rfl rfl (fun s h => by cases h) ?_))
   rintro nf1 ⟨Type1, Sector1, Data1, Room1, Ranges1, b2, i1, v4, v5, v6⟩ h
   replace h : ref_Bytes21L1B (ref_Bytes21L1 nf1) Type1 Sector1 Data1 Room1 Ranges1 b2 i1 = some r := h
   unfold ref_Bytes21L1B at h
   refine Tk_seq (Tk_seq (Tk_region (Tops_step rfl (OpT_move rfl rfl rfl rfl) ?_)))
   refine Tops_step rfl (OpT_fieldC rfl rfl rfl rfl fldF38x4) ?_
   refine Tops_step rfl (OpT_loadC rfl rfl rfl rfl tyF36 (i := 0) rfl rfl) ?_
   refine Tops_step rfl (OpT_lenS rfl rfl rfl rfl Try.underlying36 (i := 1) rfl) ?_
   refine Tops_step rfl (OpT_bin rfl rfl rfl rfl rfl (bin_lss_i (a := i1) (b := len Ranges1))) ?_
   refine Tops_nil (tZ [1, 5, 6, 25] [0, 1] [0, 1] rfl rfl rfl rfl ?_)
   rcases Bool.eq_false_or_eq_true (decide (i1 < (len Ranges1))) with hg2 | hg2
   ·replace h := br_t hg2 h
    refine Tk_condT (congrArg (fun b => some (Value.bool b)) hg2) ?_
    refine Tk_skip (Tk_seq (Tk_block (Tk_seq (Tk_region (Tops_step rfl (OpT_fieldC rfl rfl rfl rfl fldF38x4) ?_)))))
    refine Tops_step rfl (OpT_loadC rfl rfl rfl rfl tyF36 (i := 0) rfl rfl) ?_
    refine Tops_step rfl (OpT_move rfl rfl rfl rfl) ?_
    obtain ⟨r1, hx5, h⟩ := ob_e h
    refine Tops_ex rfl (OpT_idxS rfl rfl rfl rfl rfl slF36 (i := 1) rfl hx5) fun p1 => ?_
    refine Tops_step rfl (OpT_loadPA (vs := [vU64 r1.Sector, vU32 r1.Count, vU32 r1.Flags]) rfl rfl rfl rfl tyF90 (i := 2) rfl rfl) ?_
    refine Tops_ex rfl (OpT_alloc rfl rfl rfl tyZ90) fun b3 => ?_
    refine Tops_step rfl (OpT_storeC (cs' := [vU64 r1.Sector, vU32 r1.Count, vU32 r1.Flags]) rfl rfl rfl rfl tyF90 (i := 2) rfl rfl rfl (one_of rfl) rfl) ?_
    refine Tops_nil (tZ [1, 5, 6, 7] [0, 1, 2] [0, 1] rfl rfl rfl rfl ?_)
    refine Tk_drawT (by kernel_rfl) ?_
    refine TA_tb [0, 0, 2, 7, 0, 16, 48, 127, 0, 256, 768, 2047, 4095] (by kernel_rfl) fun htb => ?_
    obtain ⟨word4, hx6, h⟩ := ob_e h
    obtain ⟨word5, hx7, h⟩ := ob_e h
    refine TA_seg (lo := 0) (hi := 11) htb rfl rfl (by kernel_rfl) (fun c L a w => ∃ (v7 : Value), ∃ (v8 : Value), Sat c ⟨[(1, some (.pointer (some ⟨b1, 0, none⟩))), (5, some (v6)), (6, some (vI i1)), (7, some (.pointer (some ⟨b3, 0, none⟩))), (33, bif L 0 then some (v6) else none), (34, bif L 1 then some (.pointer (some ⟨b3, 0, none⟩)) else none), (35, bif L 2 then some (vU64 r1.Sector) else none), (36, bif L 3 then some (v7) else none), (37, bif L 4 then some (.pointer (some ⟨b3, 1, none⟩)) else none), (38, bif L 5 then some (vU32 r1.Count) else none), (39, bif L 6 then some (vU64 r1.Count.toUInt64) else none), (40, bif L 7 then some (v8) else none), (41, bif L 8 then some (.pointer (some ⟨b3, 2, none⟩)) else none), (42, bif L 9 then some (vU32 r1.Flags) else none), (43, bif L 10 then some (vU64 r1.Flags.toUInt64) else none)], [(some (cellsR b1 38 [vU32 Type1, vU64 Sector1, v4, vI Room1, v5]) : Option Res), (bif L 3 then none else some (rowS u8S v6 b2) : Option Res), (some (cellsR b3 90 [vU64 r1.Sector, vU32 r1.Count, vU32 r1.Flags]) : Option Res), (bif L 7 then none else bif L 3 then some (rowS u8S v7 word4) else none : Option Res), (bif L 7 then some (rowS u8S v8 word5) else none : Option Res)], [Fact.sl u8S v4 Data1, Fact.sl RangeS v5 Ranges1]⟩ a w) [([], [3, 7]), ([], [2, 3, 7]), ([1], [3, 7]), ([0, 1, 2], [7]), ([], [5, 6, 7]), ([4], [6, 7]), ([4, 5], [7]), ([0, 1, 2, 3, 4, 5, 6], []), ([], [9, 10]), ([8], [10]), ([8, 9], [])] rfl (by kernel_rfl) ?_ (steps_cons ?_ (steps_cons ?_ (steps_cons ?_ (steps_cons ?_ (steps_cons ?_ (steps_cons ?_ (steps_cons ?_ (steps_cons ?_ (steps_cons ?_ (steps_cons ?_ (steps_cons ?_ (steps_nil)))))))))))) ?_
    ·intro a w hs
     exact ⟨undef, undef, hs.startF [33, 34, 35, 36, 37, 38, 39, 40, 41, 42, 43] [0, 1, 2, 3, 4] [0, 1] rfl rfl rfl rfl⟩
    ·intro L a w hv K Q hK
     obtain ⟨v7, v8, hs⟩ := hv
     refine wpOp_go rfl rfl hs (OpT_move rfl rfl rfl rfl) ?_
     rintro _ rfl a' w' hs'
     exact hK a' w' ⟨v7, v8, hs'.putF (i := 4) rfl [0, 1, 2, 3, 4] [0, 1] rfl rfl rfl rfl⟩
    ·intro L a w hv K Q hK
     obtain ⟨v7, v8, hs⟩ := hv
     refine wpOp_go rfl rfl hs (OpT_fieldC rfl rfl rfl rfl fldF90x0) ?_
     rintro _ rfl a' w' hs'
     exact hK a' w' ⟨v7, v8, hs'.putF (i := 5) rfl [0, 1, 2, 3, 4] [0, 1] rfl rfl rfl rfl⟩
    ·intro L a w hv K Q hK
     obtain ⟨v7, v8, hs⟩ := hv
     refine wpOp_go rfl rfl hs (OpT_loadC rfl rfl rfl rfl tyF29 (i := 2) rfl rfl) ?_
     rintro _ rfl a' w' hs'
     exact hK a' w' ⟨v7, v8, hs'.putF (i := 6) rfl [0, 1, 2, 3, 4] [0, 1] rfl rfl rfl rfl⟩
    ·intro L a w hv K Q hK
     obtain ⟨v7, v8, hs⟩ := hv
     refine wpOp_go rfl rfl hs (OpT_call (w_ref_word21 hx6) [1] [] rfl rfl rfl rfl rfl callee51 rfl rfl rfl rfl) ?_
     rintro _ ⟨v7', _, _, ⟨_, rfl, rfl, rfl⟩, rfl⟩ a' w' hs'
     exact hK a' w' ⟨v7', v8, hs'.putF (i := 7) rfl [0, 1, 2, 5, 4] [0, 1] rfl rfl rfl rfl⟩
    ·intro L a w hv K Q hK
     obtain ⟨v7, v8, hs⟩ := hv
     refine wpOp_go rfl rfl hs (OpT_fieldC rfl rfl rfl rfl fldF90x1) ?_
     rintro _ rfl a' w' hs'
     exact hK a' w' ⟨v7, v8, hs'.putF (i := 8) rfl [0, 1, 2, 3, 4] [0, 1] rfl rfl rfl rfl⟩
    ·intro L a w hv K Q hK
     obtain ⟨v7, v8, hs⟩ := hv
     refine wpOp_go rfl rfl hs (OpT_loadC rfl rfl rfl rfl tyF30 (i := 2) rfl rfl) ?_
     rintro _ rfl a' w' hs'
     exact hK a' w' ⟨v7, v8, hs'.putF (i := 9) rfl [0, 1, 2, 3, 4] [0, 1] rfl rfl rfl rfl⟩
    ·intro L a w hv K Q hK
     obtain ⟨v7, v8, hs⟩ := hv
     refine wpOp_go rfl rfl hs (OpT_cnv rfl rfl rfl rfl (cnv_u32_u64 (n := r1.Count) Try.underlying30 Try.underlying29)) ?_
     rintro _ rfl a' w' hs'
     exact hK a' w' ⟨v7, v8, hs'.putF (i := 10) rfl [0, 1, 2, 3, 4] [0, 1] rfl rfl rfl rfl⟩
    ·intro L a w hv K Q hK
     obtain ⟨v7, v8, hs⟩ := hv
     refine wpOp_go rfl rfl hs (OpT_call (w_ref_word21 hx7) [3] [] rfl rfl rfl rfl rfl callee51 rfl rfl rfl rfl) ?_
     rintro _ ⟨v8', _, _, ⟨_, rfl, rfl, rfl⟩, rfl⟩ a' w' hs'
     exact hK a' w' ⟨v7, v8', hs'.putF (i := 11) rfl [0, 1, 2, 3, 5] [0, 1] rfl rfl rfl rfl⟩
    ·intro L a w hv K Q hK
     obtain ⟨v7, v8, hs⟩ := hv
     refine wpOp_go rfl rfl hs (OpT_fieldC rfl rfl rfl rfl fldF90x2) ?_
     rintro _ rfl a' w' hs'
     exact hK a' w' ⟨v7, v8, hs'.putF (i := 12) rfl [0, 1, 2, 3, 4] [0, 1] rfl rfl rfl rfl⟩
    ·intro L a w hv K Q hK
     obtain ⟨v7, v8, hs⟩ := hv
     refine wpOp_go rfl rfl hs (OpT_loadC rfl rfl rfl rfl tyF30 (i := 2) rfl rfl) ?_
     rintro _ rfl a' w' hs'
     exact hK a' w' ⟨v7, v8, hs'.putF (i := 13) rfl [0, 1, 2, 3, 4] [0, 1] rfl rfl rfl rfl⟩
    ·intro L a w hv K Q hK
     obtain ⟨v7, v8, hs⟩ := hv
     refine wpOp_go rfl rfl hs (OpT_cnv rfl rfl rfl rfl (cnv_u32_u64 (n := r1.Flags) Try.underlying30 Try.underlying29)) ?_
     rintro _ rfl a' w' hs'
     exact hK a' w' ⟨v7, v8, hs'.putF (i := 14) rfl [0, 1, 2, 3, 4] [0, 1] rfl rfl rfl rfl⟩
    ·intro L a w hL hv
     rw [allTrue hL] at hv
     obtain ⟨v7, v8, hs⟩ := hv
     refine gZ hs [1, 6, 40, 43] [0, 4] [0, 1] rfl rfl rfl rfl ?_
     clear hs hL
     obtain ⟨word6, hx8, h⟩ := ob_e h
     refine TA_exP htb (by kernel_rfl) rfl rfl (OpT_call (w_ref_word21 hx8) [1] [] rfl rfl rfl rfl rfl callee51 rfl rfl rfl rfl) ?_
     rintro _ ⟨v9, _, _, ⟨_, rfl, rfl, rfl⟩, rfl⟩
     refine TA_step htb (by kernel_rfl) rfl rfl (OpT_assign rfl rfl rfl rfl) ?_
     refine TA_end rfl ?_
     refine tZ [1, 6, 5] [0, 2] [0, 1] rfl rfl rfl rfl ?_
     refine Tk_blk (Tk_region (Tops_step rfl (OpT_move rfl rfl rfl rfl) ?_))
     refine Tops_step rfl (OpT_bin rfl rfl rfl rfl rfl (bin_add_i (a := i1) (b := (1 : Int)))) ?_
     refine Tops_step rfl (OpT_assign rfl rfl rfl rfl) ?_
     refine Tops_nil (tZ [1, 6, 5] [0, 1] [0, 1] rfl rfl rfl rfl ?_)
     exact Tk_backS (Type1, Sector1, Data1, Room1, Ranges1, word6, wi (i1 + (1 : Int)), v4, v5, v9) h [1, 5, 6] [0, 1] [0, 1] rfl rfl rfl rfl rfl
   ·replace h := br_f hg2 h
    refine Tk_condF (congrArg (fun b => some (Value.bool b)) hg2) ?_
    refine Tk_exit _ rfl ?_
    refine Tk_seq (Tk_region (Tops_step rfl (OpT_move rfl rfl rfl rfl) ?_))
    refine Tops_step rfl (OpT_fieldC rfl rfl rfl rfl fldF38x2) ?_
    refine Tops_step rfl (OpT_loadC rfl rfl rfl rfl tyF35 (i := 0) rfl rfl) ?_
    obtain ⟨hc1, h⟩ := chk_e h
    refine Tops_ex rfl (OpT_append rfl rfl rfl rfl rfl slF35 (i := 1) (j := 0) rfl rfl hc1) fun v10 => ?_
    refine Tops_step rfl (OpT_assign rfl rfl rfl rfl) ?_
    refine Tops_step rfl (OpT_assign rfl rfl rfl rfl) ?_
    refine Tops_nil (tZ [2, 3] [1] [] rfl rfl rfl rfl ?_)
    obtain rfl := Option.some.inj h
    exact Tk_retV rfl rfl (resA (vs := [v10, vI (0 : Int)]) rfl ⟨rfl, rfl, trivial⟩) [0] [] rfl rfl rfl ⟨v10, rfl, rfl, rfl⟩

set_option maxRecDepth 100000 in
set_option maxHeartbeats 4000000 in
theorem w_ref_data21 {rp0 : Req} {vrp01 : Value} {vrp02 : Value} {r : (List UInt8)} (h : ref_data21 rp0 = some r) :
  Ctr Try.prog 69 #[.agg #[vU32 rp0.Type_, vU64 rp0.Sector, vrp01, vI rp0.Room, vrp02]] [] [Fact.sl u8S vrp01 rp0.Data, Fact.sl RangeS vrp02 rp0.Ranges]
   (fun rv own shr => ∃ (w1 : Value), rv = w1 ∧ own = [] ∧ shr = [Fact.sl u8S w1 r]) := by
 unfold ref_data21 at h
 refine Ctr.mk (args := [.agg #[vU32 rp0.Type_, vU64 rp0.Sector, vrp01, vI rp0.Room, vrp02]]) Try.func69 rfl rfl (fun R0 w0 B => ?_)
 refine Tk_seq (Tk_region (Tops_ex rfl (OpT_box rfl rfl rfl rfl) fun b1 => ?_))
 refine Tops_step rfl (OpT_assign rfl rfl rfl rfl) ?_
 refine Tops_nil (tZ [1] [0] [0, 1] rfl rfl rfl rfl ?_)
 refine Tk_seq (Tk_region (Tops_step rfl (OpT_loadCA (vs := [vU32 rp0.Type_, vU64 rp0.Sector, vrp01, vI rp0.Room, vrp02]) rfl rfl rfl rfl tyF38 (i := 0) rfl rfl rfl) ?_))
 obtain ⟨bytes1, hx1, h⟩ := ob_e h
 refine Tops_exP rfl (OpT_call (w_ref_Bytes21 hx1) [] [0, 1] rfl rfl rfl rfl rfl callee22 rfl rfl rfl rfl) ?_
 rintro _ ⟨_, _, _, ⟨v1, rfl, rfl, rfl⟩, rfl⟩
 refine Tops_step rfl (OpT_move rfl rfl rfl rfl) ?_
 refine Tops_step rfl (OpT_extract rfl rfl rfl rfl rfl) ?_
 refine Tops_step rfl (OpT_extract rfl rfl rfl rfl rfl) ?_
 refine Tops_step rfl (OpT_assign rfl rfl rfl rfl) ?_
 refine Tops_step rfl (OpT_assign rfl rfl rfl rfl) ?_
 refine Tops_nil (tZ [3] [1] [] rfl rfl rfl rfl ?_)
 refine Tk_seq (Tk_region (Tops_step rfl (OpT_move rfl rfl rfl rfl) ?_))
 obtain ⟨hc1, h⟩ := chk_e h
 refine Tops_step rfl (OpT_subL (S := u8S) (l := (16 : Int)) rfl rfl rfl rfl rfl slF35 (i := 0) rfl hc1) ?_
 refine Tops_step rfl (OpT_assign rfl rfl rfl rfl) ?_
 refine Tops_nil (tZ [2] [0] [] rfl rfl rfl rfl ?_)
 refine Tk_retire (i := 0) rfl ?_
 refine Tk_vs (vs_subSl (l := (16 : Int)) (m := (len bytes1.1)) (i := 0) rfl hc1) ?_
 obtain rfl := Option.some.inj h
 exact Tk_retV rfl rfl (resA (vs := [subV v1 1 (Int.toNat (16 : Int)) (Int.toNat (len bytes1.1))]) rfl ⟨rfl, trivial⟩) [] [1] rfl rfl rfl ⟨subV v1 1 (Int.toNat (16 : Int)) (Int.toNat (len bytes1.1)), rfl, rfl, rfl⟩

set_option maxRecDepth 100000 in
set_option maxHeartbeats 4000000 in
theorem w_ref_Apply21 {sp0 : dumbwaiterref20_Store} {feats : UInt64} {name : List UInt8} {rp3 : Req} {b_sp0 : Nat} {vsp01 : Value} {vsp02 : Value} {vsp03 : Value} {vrp31 : Value} {vrp32 : Value} {r : ((List UInt8) × UInt8 × Int × dumbwaiterref20_Store)} (h : ref_Apply21 sp0 feats name rp3 = some r) :
  Ctr Try.prog 38 #[.pointer (some ⟨b_sp0, 0, none⟩), vU64 feats, vS name, .agg #[vU32 rp3.Type_, vU64 rp3.Sector, vrp31, vI rp3.Room, vrp32]] [(cellsR b_sp0 105 [vsp01, vsp02, vsp03]), (rowS u8S vsp01 sp0.old), (rowS u8S vsp02 sp0.now), (rowS bS vsp03 sp0.fresh)] [Fact.sl u8S vrp31 rp3.Data, Fact.sl RangeS vrp32 rp3.Ranges]
   (fun rv own shr => ∃ (w1 : Value), ∃ (w2 : Value), ∃ (w3 : Value), ∃ (w4 : Value), rv = .tuple #[w1, vU8 r.2.1, vI r.2.2.1] ∧ own = [(cellsR b_sp0 105 [w2, w3, w4]), (rowS u8S w2 r.2.2.2.old), (rowS u8S w3 r.2.2.2.now), (rowS bS w4 r.2.2.2.fresh), (rowS u8S w1 r.1)] ∧ shr = []) := by
 unfold ref_Apply21 at h
 refine Ctr.mk (args := [.pointer (some ⟨b_sp0, 0, none⟩), vU64 feats, vS name, .agg #[vU32 rp3.Type_, vU64 rp3.Sector, vrp31, vI rp3.Room, vrp32]]) Try.func38 rfl rfl (fun R0 w0 B => ?_)
 refine Tk_seq (Tk_region (Tops_ex rfl (OpT_box rfl rfl rfl rfl) fun b1 => ?_))
 refine Tops_step rfl (OpT_assign rfl rfl rfl rfl) ?_
 refine Tops_step rfl (OpT_assign rfl rfl rfl rfl) ?_
 refine Tops_step rfl (OpT_assign rfl rfl rfl rfl) ?_
 refine Tops_nil (tZ [0, 1, 2, 7] [0, 1, 2, 3, 4] [0, 1] rfl rfl rfl rfl ?_)
 refine Tk_seq (Tk_seq (Tk_region (Tops_step rfl (OpT_move rfl rfl rfl rfl) ?_)))
 refine Tops_step rfl (OpT_ptrNil rfl rfl rfl (.inl rfl) rfl rfl ptrF70) ?_
 refine Tops_nil (tZ [0, 1, 2, 7, 15] [0, 1, 2, 3, 4] [0, 1] rfl rfl rfl rfl ?_)
 refine Tk_condF rfl ?_
 refine Tk_skip (Tk_seq (Tk_region (Tops_step rfl (OpT_loadCA (vs := [vU32 rp3.Type_, vU64 rp3.Sector, vrp31, vI rp3.Room, vrp32]) rfl rfl rfl rfl tyF38 (i := 4) rfl rfl rfl) ?_)))
 obtain ⟨check1, hx1, h⟩ := ob_e h
 refine Tops_exP rfl (OpT_call (w_ref_Check21 hx1) [] [0, 1] rfl rfl rfl rfl rfl callee35 rfl rfl rfl rfl) ?_
 rintro _ ⟨_, _, _, ⟨rfl, rfl, rfl⟩, rfl⟩
 refine Tops_step rfl (OpT_assign rfl rfl rfl rfl) ?_
 refine Tops_nil (tZ [0, 1, 2, 7, 11] [0, 1, 2, 3, 4] [0, 1] rfl rfl rfl rfl ?_)
 refine Tk_seq (Tk_seq (Tk_region (Tops_step rfl (OpT_move rfl rfl rfl rfl) ?_)))
 refine Tops_step rfl (OpT_bin rfl rfl rfl rfl rfl (bin_neq_i (a := check1) (b := (0 : Int)))) ?_
 refine Tops_nil (tZ [0, 1, 2, 7, 11, 19] [0, 1, 2, 3, 4] [0, 1] rfl rfl rfl rfl ?_)
 rcases Bool.eq_false_or_eq_true (check1 != (0 : Int)) with hg1 | hg1
 ·replace h := br_t hg1 h
  refine Tk_condT (congrArg (fun b => some (Value.bool b)) hg1) ?_
  refine Tk_seq (Tk_region (Tops_step rfl (OpT_move rfl rfl rfl rfl) ?_))
  refine Tops_step rfl (OpT_assign rfl rfl rfl rfl) ?_
  refine Tops_step rfl (OpT_assign rfl rfl rfl rfl) ?_
  refine Tops_step rfl (OpT_assign rfl rfl rfl rfl) ?_
  refine Tops_nil (tZ [8, 9, 10] [0, 1, 2, 3] [] rfl rfl rfl rfl ?_)
  refine Tk_nilrow u8S ?_
  obtain rfl := Option.some.inj h
  exact Tk_retV rfl rfl (resA (vs := [.slice none 0 0, vU8 (0 : UInt8), vI check1]) rfl ⟨rfl, rfl, rfl, trivial⟩) [0, 1, 2, 3, 4] [] rfl rfl rfl ⟨(.slice none 0 0), vsp01, vsp02, vsp03, rfl, rfl, rfl⟩
 ·replace h := br_f hg1 h
  refine Tk_condF (congrArg (fun b => some (Value.bool b)) hg1) ?_
  refine Tk_skip (Tk_seq (Tk_drawT (by kernel_rfl) ?_))
  refine TA_tb [0, 0, 0, 0, 0, 16, 63, 127, 255, 255, 511, 2047] (by kernel_rfl) fun htb => ?_
  refine aZ [0, 1, 2, 7] [0, 1, 2, 3, 4] [0, 1] rfl rfl rfl rfl ?_
  obtain ⟨data1, hx2, h⟩ := ob_e h
  refine TA_seg (lo := 0) (hi := 6) htb rfl rfl (by kernel_rfl) (fun c L a w => ∃ (v1 : Value), Sat c ⟨[(0, some (.pointer (some ⟨b_sp0, 0, none⟩))), (1, some (vU64 feats)), (2, some (vS name)), (7, some (.pointer (some ⟨b1, 0, none⟩))), (22, bif L 0 then some (.pointer (some ⟨b_sp0, 0, none⟩)) else none), (23, bif L 1 then some (vU64 feats) else none), (24, bif L 2 then some (vS name) else none), (25, bif L 3 then some (.agg #[vU32 rp3.Type_, vU64 rp3.Sector, vrp31, vI rp3.Room, vrp32]) else none), (26, bif L 4 then some (.agg #[vU32 rp3.Type_, vU64 rp3.Sector, vrp31, vI rp3.Room, vrp32]) else none), (27, bif L 5 then some (v1) else none)], [(some (cellsR b_sp0 105 [vsp01, vsp02, vsp03]) : Option Res), (some (rowS u8S vsp01 sp0.old) : Option Res), (some (rowS u8S vsp02 sp0.now) : Option Res), (some (rowS bS vsp03 sp0.fresh) : Option Res), (some (cellsR b1 38 [vU32 rp3.Type_, vU64 rp3.Sector, vrp31, vI rp3.Room, vrp32]) : Option Res)], [Fact.sl u8S vrp31 rp3.Data, Fact.sl RangeS vrp32 rp3.Ranges, (bif L 5 then Fact.sl u8S v1 data1 else Fact.tt)]⟩ a w) [([], []), ([], []), ([], []), ([], []), ([], [5]), ([4], [])] rfl (by kernel_rfl) ?_ (steps_cons ?_ (steps_cons ?_ (steps_cons ?_ (steps_cons ?_ (steps_cons ?_ (steps_cons ?_ (steps_nil))))))) ?_
  ·intro a w hs
   exact ⟨undef, hs.startF [22, 23, 24, 25, 26, 27] [0, 1, 2, 3, 4] [0, 1, 2] rfl rfl rfl rfl⟩
  ·intro L a w hv K Q hK
   obtain ⟨v1, hs⟩ := hv
   refine wpOp_go rfl rfl hs (OpT_move rfl rfl rfl rfl) ?_
   rintro _ rfl a' w' hs'
   exact hK a' w' ⟨v1, hs'.putF (i := 4) rfl [0, 1, 2, 3, 4] [0, 1, 2] rfl rfl rfl rfl⟩
  ·intro L a w hv K Q hK
   obtain ⟨v1, hs⟩ := hv
   refine wpOp_go rfl rfl hs (OpT_move rfl rfl rfl rfl) ?_
   rintro _ rfl a' w' hs'
   exact hK a' w' ⟨v1, hs'.putF (i := 5) rfl [0, 1, 2, 3, 4] [0, 1, 2] rfl rfl rfl rfl⟩
  ·intro L a w hv K Q hK
   obtain ⟨v1, hs⟩ := hv
   refine wpOp_go rfl rfl hs (OpT_move rfl rfl rfl rfl) ?_
   rintro _ rfl a' w' hs'
   exact hK a' w' ⟨v1, hs'.putF (i := 6) rfl [0, 1, 2, 3, 4] [0, 1, 2] rfl rfl rfl rfl⟩
  ·intro L a w hv K Q hK
   obtain ⟨v1, hs⟩ := hv
   refine wpOp_go rfl rfl hs (OpT_loadCA (vs := [vU32 rp3.Type_, vU64 rp3.Sector, vrp31, vI rp3.Room, vrp32]) rfl rfl rfl rfl tyF38 (i := 4) rfl rfl rfl) ?_
   rintro _ rfl a' w' hs'
   exact hK a' w' ⟨v1, hs'.putF (i := 7) rfl [0, 1, 2, 3, 4] [0, 1, 2] rfl rfl rfl rfl⟩
  ·intro L a w hv K Q hK
   obtain ⟨v1, hs⟩ := hv
   refine wpOp_go rfl rfl hs (OpT_loadCA (vs := [vU32 rp3.Type_, vU64 rp3.Sector, vrp31, vI rp3.Room, vrp32]) rfl rfl rfl rfl tyF38 (i := 4) rfl rfl rfl) ?_
   rintro _ rfl a' w' hs'
   exact hK a' w' ⟨v1, hs'.putF (i := 8) rfl [0, 1, 2, 3, 4] [0, 1, 2] rfl rfl rfl rfl⟩
  ·intro L a w hv K Q hK
   obtain ⟨v1, hs⟩ := hv
   refine wpOp_go rfl rfl hs (OpT_call (w_ref_data21 hx2) [] [0, 1] rfl rfl rfl rfl rfl callee69 rfl rfl rfl rfl) ?_
   rintro _ ⟨v1', _, _, ⟨_, rfl, rfl, rfl⟩, rfl⟩ a' w' hs'
   exact hK a' w' ⟨v1', hs'.putF (i := 9) rfl [0, 1, 2, 3, 4] [0, 1, 3] rfl rfl rfl rfl⟩
  ·intro L a w hL hv
   rw [allTrue hL] at hv
   obtain ⟨v1, hs⟩ := hv
   refine gZ hs [22, 23, 24, 25, 27] [0, 1, 2, 3] [0, 1, 2] rfl rfl rfl rfl ?_
   clear hs hL
   obtain ⟨apply1, hx3, h⟩ := ob_e h
   refine TA_exP htb (by kernel_rfl) rfl rfl (OpT_callP [4, 5, 6, 7, 8] (w_ref_apply21 hx3) [0, 1, 2, 3] [0, 1, 2] rfl rfl rfl rfl rfl callee66 rfl rfl rfl rfl rfl) ?_
   rintro _ ⟨_, _, _, ⟨v2, v3, v4, v5, rfl, rfl, rfl⟩, rfl⟩
   refine TA_step htb (by kernel_rfl) rfl rfl (OpT_move rfl rfl rfl rfl) ?_
   refine aZ [21] [0, 1, 2, 3, 4] [] rfl rfl rfl rfl ?_
   refine TA_seg (lo := 8) (hi := 11) htb rfl rfl (by kernel_rfl) (fun c L a w => Sat c ⟨[(21, some (.tuple #[v2, vU8 apply1.2.1])), (29, bif L 8 then some (v2) else none), (30, bif L 9 then some (vU8 apply1.2.1) else none), (12, bif L 10 then some (v2) else none)], [(some (cellsR b_sp0 105 [v3, v4, v5]) : Option Res), (some (rowS u8S v3 apply1.2.2.old) : Option Res), (some (rowS u8S v4 apply1.2.2.now) : Option Res), (some (rowS bS v5 apply1.2.2.fresh) : Option Res), (some (rowS u8S v2 apply1.1) : Option Res)], []⟩ a w) [([], [10]), ([], []), ([8], [])] rfl (by kernel_rfl) ?_ (steps_cons ?_ (steps_cons ?_ (steps_cons ?_ (steps_nil)))) ?_
   ·intro a w hs
    exact hs.startF [29, 30, 12] [0, 1, 2, 3, 4] [] rfl rfl rfl rfl
   ·intro L a w hv K Q hK
    have hs := hv
    refine wpOp_go rfl rfl hs (OpT_extract rfl rfl rfl rfl rfl) ?_
    rintro _ rfl a' w' hs'
    exact hK a' w' (hs'.putF (i := 1) rfl [0, 1, 2, 3, 4] [] rfl rfl rfl rfl)
   ·intro L a w hv K Q hK
    have hs := hv
    refine wpOp_go rfl rfl hs (OpT_extract rfl rfl rfl rfl rfl) ?_
    rintro _ rfl a' w' hs'
    exact hK a' w' (hs'.putF (i := 2) rfl [0, 1, 2, 3, 4] [] rfl rfl rfl rfl)
   ·intro L a w hv K Q hK
    have hs := hv
    refine wpOp_go rfl rfl hs (OpT_assign rfl rfl rfl rfl) ?_
    rintro _ rfl a' w' hs'
    exact hK a' w' (hs'.putF (i := 3) rfl [0, 1, 2, 3, 4] [] rfl rfl rfl rfl)
   ·intro L a w hL hv
    rw [allTrue hL] at hv
    have hs := hv
    refine gZ hs [30, 12] [0, 1, 2, 3, 4] [] rfl rfl rfl rfl ?_
    clear hs hL
    refine TA_step htb (by kernel_rfl) rfl rfl (OpT_assign rfl rfl rfl rfl) ?_
    refine TA_end rfl ?_
    refine tZ [12, 13] [0, 1, 2, 3, 4] [] rfl rfl rfl rfl ?_
    refine Tk_seq (Tk_region (Tops_step rfl (OpT_move rfl rfl rfl rfl) ?_))
    refine Tops_step rfl (OpT_move rfl rfl rfl rfl) ?_
    refine Tops_step rfl (OpT_assign rfl rfl rfl rfl) ?_
    refine Tops_step rfl (OpT_assign rfl rfl rfl rfl) ?_
    refine Tops_step rfl (OpT_assign rfl rfl rfl rfl) ?_
    refine Tops_nil (tZ [8, 9, 10] [0, 1, 2, 3, 4] [] rfl rfl rfl rfl ?_)
    obtain rfl := Option.some.inj h
    exact Tk_retV rfl rfl (resA (vs := [v2, vU8 apply1.2.1, vI (0 : Int)]) rfl ⟨rfl, rfl, rfl, trivial⟩) [0, 1, 2, 3, 4] [] rfl rfl rfl ⟨v2, v3, v4, v5, rfl, rfl, rfl⟩
end Go.Proofs.Ytkmjpgfbcklopaa
