/- The functions do what the plain words say: each is walked once. No statement of the seat is proved here; no condition. -/
import Derived.Test.YtkmjpgfbcklopaaWa2
namespace Go.Proofs.Ytkmjpgfbcklopaa
attribute [local irreducible] sub
set_option maxRecDepth 100000 in
set_option maxHeartbeats 4000000 in
theorem w_law22zmemory  {r : (List Region)} (h : law22zmemory = some r) :
  Ctr Try.prog 16 #[] [] []
   (fun rv own shr => ∃ (w1 : Value), rv = w1 ∧ own = [(rowS RegionS w1 r)] ∧ shr = []) := by
 unfold law22zmemory at h
 refine Ctr.mk (args := []) Try.func16 rfl rfl (fun R0 w0 B => ?_)
 refine Tk_seq (Tk_region (Tops_step rfl (OpT_assign rfl rfl rfl rfl) ?_))
 refine Tops_nil (Tk_wkS (fr' := []) (own' := []) (shr' := []) [] [] [] rfl rfl rfl rfl ?_)
 refine Tk_seq (Tk_region (Tops_step rfl (OpT_build (v := .agg #[vU64 (0 : UInt64), vU64 (16384 : UInt64)]) rfl rfl rfl rfl (bldV (by kernel_rfl))) ?_))
 refine Tops_ex rfl (OpT_buildSlice (S := RegionS) (xs := [(Region.mk (0 : UInt64) (16384 : UInt64))]) (css := [[vU64 (0 : UInt64), vU64 (16384 : UInt64)]]) (cs := [vU64 (0 : UInt64), vU64 (16384 : UInt64)]) (e := 57) rfl rfl rfl rfl (bldF slF45 (by decide) (by kernel_rfl)) rfl rfl rfl rfl (rel_plainD (S := RegionS) (xs := [(Region.mk (0 : UInt64) (16384 : UInt64))]) (css := [[vU64 (0 : UInt64), vU64 (16384 : UInt64)]]) rfl rfl)) fun v1 => ?_
 refine Tops_step rfl (OpT_assign rfl rfl rfl rfl) ?_
 refine Tops_nil (Tk_wkS (fr' := [(0, some (v1))]) (own' := [some (rowS RegionS v1 [(Region.mk (0 : UInt64) (16384 : UInt64))])]) (shr' := []) [0] [0] [] rfl rfl rfl rfl ?_)
 obtain rfl := Option.some.inj h
 exact Tk_retV rfl rfl (resA (vs := [v1]) rfl ⟨rfl, trivial⟩) [0] [] rfl rfl rfl ⟨v1, rfl, rfl, rfl⟩

set_option maxRecDepth 100000 in
set_option maxHeartbeats 4000000 in
theorem w_kit_Own {b : List UInt8} {vb1 : Value} {r : (List UInt8)} (h : kit_Own b = some r) :
  Ctr Try.prog 49 #[vb1] [] [Fact.sl u8S vb1 b]
   (fun rv own shr => ∃ (w1 : Value), rv = w1 ∧ own = [(rowS u8S w1 r)] ∧ shr = []) := by
 unfold kit_Own at h
 refine Ctr.mk (args := [vb1]) Try.func49 rfl rfl (fun R0 w0 B => ?_)
 refine Tk_seq (Tk_region (Tops_step rfl (OpT_assign rfl rfl rfl rfl) ?_))
 refine Tops_nil (Tk_wkS (fr' := [(0, some (vb1))]) (own' := []) (shr' := [Fact.sl u8S vb1 b]) [0] [] [0] rfl rfl rfl rfl ?_)
 refine Tk_seq (Tk_region (Tops_ex rfl (OpT_buildSlice (S := u8S) (xs := ([] : List UInt8)) (css := []) (cs := []) (e := 5) rfl rfl rfl rfl (bldF slF35 (by decide) (by kernel_rfl)) rfl rfl rfl rfl (rel_plainD (S := u8S) (xs := ([] : List UInt8)) (css := []) rfl rfl)) fun v1 => ?_))
 refine Tops_step rfl (OpT_move rfl rfl rfl rfl) ?_
 obtain ⟨hc1, h⟩ := chk_e h
 refine Tops_ex rfl (OpT_append rfl rfl rfl rfl rfl slF35 (i := 0) (j := 0) rfl rfl hc1) fun v2 => ?_
 refine Tops_step rfl (OpT_assign rfl rfl rfl rfl) ?_
 refine Tops_nil (Tk_wkS (fr' := [(2, some (v2))]) (own' := [some (rowS u8S v2 b)]) (shr' := []) [2] [0] [] rfl rfl rfl rfl ?_)
 obtain rfl := Option.some.inj h
 exact Tk_retV rfl rfl (resA (vs := [v2]) rfl ⟨rfl, trivial⟩) [0] [] rfl rfl rfl ⟨v2, rfl, rfl, rfl⟩

theorem ws_kit_Own {b : List UInt8} {vb1 : Value} {r : (List UInt8)} (h : kit_Own b = some r) :
  Ctr Try.prog 49 #[vb1] [] [Fact.sl u8S vb1 b]
   (fun rv own shr => ∃ (w1 : Value), rv = w1 ∧ own = [] ∧ shr = [Fact.sl u8S w1 r]) :=
 Ctr.sh (w_kit_Own h) (by rintro w1 _ _ ⟨_, rfl, rfl, rfl⟩; exact ⟨[], _, _, _, _, rfl, w1, rfl, rfl, rfl⟩)

set_option maxRecDepth 100000 in
set_option maxHeartbeats 4000000 in
theorem w_kit_Req {rp0 : Req} {vrp01 : Value} {vrp02 : Value} {r : Req} (h : kit_Req rp0 = some r) :
  Ctr Try.prog 20 #[.agg #[vU32 rp0.Type_, vU64 rp0.Sector, vrp01, vI rp0.Room, vrp02]] [] [Fact.sl u8S vrp01 rp0.Data, Fact.sl RangeS vrp02 rp0.Ranges]
   (fun rv own shr => ∃ (w1 : Value), ∃ (w2 : Value), rv = .agg #[vU32 r.Type_, vU64 r.Sector, w1, vI r.Room, w2] ∧ own = [(rowS RangeS w2 r.Ranges)] ∧ shr = [Fact.sl u8S w1 r.Data]) := by
 unfold kit_Req at h
 refine Ctr.mk (args := [.agg #[vU32 rp0.Type_, vU64 rp0.Sector, vrp01, vI rp0.Room, vrp02]]) Try.func20 rfl rfl (fun R0 w0 B => ?_)
 refine Tk_seq (Tk_region (Tops_ex rfl (OpT_box rfl rfl rfl rfl) fun b1 => ?_))
 refine Tops_ex rfl (OpT_alloc rfl rfl rfl tyZ38) fun b2 => ?_
 refine Tops_nil (Tk_wkS (fr' := [(1, some (.pointer (some ⟨b1, 0, none⟩))), (2, some (.pointer (some ⟨b2, 0, none⟩)))]) (own' := [some (cellsR b1 38 [vU32 rp0.Type_, vU64 rp0.Sector, vrp01, vI rp0.Room, vrp02]), some (cellsR b2 38 [vU32 (0 : UInt32), vU64 (0 : UInt64), .slice none 0 0, vI (0 : Int), .slice none 0 0])]) (shr' := [Fact.sl u8S vrp01 rp0.Data, Fact.sl RangeS vrp02 rp0.Ranges]) [1, 2] [0, 1] [0, 1] rfl rfl rfl rfl ?_)
 refine Tk_seq (Tk_drawT (by kernel_rfl) ?_)
 refine TA_tb [0, 1, 3, 0, 0, 16, 63, 55, 255, 511, 1023] (by kernel_rfl) fun htb => ?_
 obtain ⟨own1, hx1, h⟩ := ob_e h
 obtain ⟨hc1, h⟩ := chk_e h
 refine TA_seg (lo := 0) (hi := 8) htb rfl rfl (by kernel_rfl) (fun c L a w => ∃ (v1 : Value), ∃ (v2 : Value), ∃ (v3 : Value), Sat c ⟨[(1, some (.pointer (some ⟨b1, 0, none⟩))), (2, some (.pointer (some ⟨b2, 0, none⟩))), (3, bif L 0 then some (.pointer (some ⟨b1, 2, none⟩)) else none), (4, bif L 1 then some (vrp01) else none), (5, bif L 2 then some (v1) else none), (6, bif L 3 then some (v2) else none), (7, bif L 4 then some (.pointer (some ⟨b1, 4, none⟩)) else none), (8, bif L 5 then some (vrp02) else none), (9, bif L 6 then some (v3) else none), (10, bif L 7 then some (.pointer (some ⟨b1, 2, none⟩)) else none)], [(some (cellsR b1 38 [vU32 rp0.Type_, vU64 rp0.Sector, vrp01, vI rp0.Room, vrp02]) : Option Res), (some (cellsR b2 38 [vU32 (0 : UInt32), vU64 (0 : UInt64), .slice none 0 0, vI (0 : Int), .slice none 0 0]) : Option Res), (bif L 6 then some (rowS RangeS v3 rp0.Ranges) else bif L 3 then some (rowS RangeS v2 ([] : List Range)) else none : Option Res)], [Fact.sl u8S vrp01 rp0.Data, Fact.sl RangeS vrp02 rp0.Ranges, (bif L 2 then Fact.sl u8S v1 own1 else Fact.tt)]⟩ a w) [([], [1, 2, 6, 7]), ([0], [2, 6, 7]), ([0, 1], [6, 7]), ([], [6]), ([], [5, 6, 7]), ([4], [6, 7]), ([0, 1, 2, 3, 4, 5], []), ([0, 1, 2, 4, 5], [])] rfl (by kernel_rfl) ?_ (steps_cons ?_ (steps_cons ?_ (steps_cons ?_ (steps_cons ?_ (steps_cons ?_ (steps_cons ?_ (steps_cons ?_ (steps_cons ?_ (steps_nil))))))))) ?_
 ·intro a w hs
  exact ⟨undef, undef, undef, hs.startF [3, 4, 5, 6, 7, 8, 9, 10] [0, 1, 2] [0, 1, 2] rfl rfl rfl rfl⟩
 ·intro L a w hv K Q hK
  obtain ⟨v1, v2, v3, hs⟩ := hv
  refine wpOp_go rfl rfl hs (OpT_fieldC rfl rfl rfl rfl fldF38x2) ?_
  rintro _ rfl a' w' hs'
  exact hK a' w' ⟨v1, v2, v3, hs'.putF (i := 2) rfl [0, 1, 2] [0, 1, 2] rfl rfl rfl rfl⟩
 ·intro L a w hv K Q hK
  obtain ⟨v1, v2, v3, hs⟩ := hv
  refine wpOp_go rfl rfl hs (OpT_loadC rfl rfl rfl rfl tyF35 (i := 0) rfl rfl) ?_
  rintro _ rfl a' w' hs'
  exact hK a' w' ⟨v1, v2, v3, hs'.putF (i := 3) rfl [0, 1, 2] [0, 1, 2] rfl rfl rfl rfl⟩
 ·intro L a w hv K Q hK
  obtain ⟨v1, v2, v3, hs⟩ := hv
  refine wpOp_go rfl rfl hs (OpT_call (ws_kit_Own hx1) [] [0] rfl rfl rfl rfl rfl callee49 rfl rfl rfl rfl) ?_
  rintro _ ⟨v1', _, _, ⟨_, rfl, rfl, rfl⟩, rfl⟩ a' w' hs'
  exact hK a' w' ⟨v1', v2, v3, hs'.putF (i := 4) rfl [0, 1, 2] [0, 1, 3] rfl rfl rfl rfl⟩
 ·intro L a w hv K Q hK
  obtain ⟨v1, v2, v3, hs⟩ := hv
  refine wpOp_go rfl rfl hs (OpT_buildSlice (S := RangeS) (xs := ([] : List Range)) (css := []) (cs := []) (e := 90) rfl rfl rfl rfl (bldF slF36 (by decide) (by kernel_rfl)) rfl rfl rfl rfl (rel_plainD (S := RangeS) (xs := ([] : List Range)) (css := []) rfl rfl)) ?_
  rintro _ ⟨v2', rfl⟩ a' w' hs'
  exact hK a' w' ⟨v1, v2', v3, hs'.putF (i := 5) rfl [0, 1, 3] [0, 1, 2] rfl rfl rfl rfl⟩
 ·intro L a w hv K Q hK
  obtain ⟨v1, v2, v3, hs⟩ := hv
  refine wpOp_go rfl rfl hs (OpT_fieldC rfl rfl rfl rfl fldF38x4) ?_
  rintro _ rfl a' w' hs'
  exact hK a' w' ⟨v1, v2, v3, hs'.putF (i := 6) rfl [0, 1, 2] [0, 1, 2] rfl rfl rfl rfl⟩
 ·intro L a w hv K Q hK
  obtain ⟨v1, v2, v3, hs⟩ := hv
  refine wpOp_go rfl rfl hs (OpT_loadC rfl rfl rfl rfl tyF36 (i := 0) rfl rfl) ?_
  rintro _ rfl a' w' hs'
  exact hK a' w' ⟨v1, v2, v3, hs'.putF (i := 7) rfl [0, 1, 2] [0, 1, 2] rfl rfl rfl rfl⟩
 ·intro L a w hv K Q hK
  obtain ⟨v1, v2, v3, hs⟩ := hv
  refine wpOp_go rfl rfl hs (OpT_append rfl rfl rfl rfl rfl slF36 (i := 2) (j := 1) rfl rfl hc1) ?_
  rintro _ ⟨v3', rfl⟩ a' w' hs'
  exact hK a' w' ⟨v1, v2, v3', hs'.putF (i := 8) rfl [0, 1, 2] [0, 1, 2] rfl rfl rfl rfl⟩
 ·intro L a w hv K Q hK
  obtain ⟨v1, v2, v3, hs⟩ := hv
  refine wpOp_go rfl rfl hs (OpT_fieldC rfl rfl rfl rfl fldF38x2) ?_
  rintro _ rfl a' w' hs'
  exact hK a' w' ⟨v1, v2, v3, hs'.putF (i := 9) rfl [0, 1, 2] [0, 1, 2] rfl rfl rfl rfl⟩
 ·intro L a w hL hv
  rw [allTrue hL] at hv
  obtain ⟨v1, v2, v3, hs⟩ := hv
  refine (show TA _ _ _ 8 ⟨[(1, some (.pointer (some ⟨b1, 0, none⟩))), (2, some (.pointer (some ⟨b2, 0, none⟩))), (5, some (v1)), (9, some (v3)), (10, some (.pointer (some ⟨b1, 2, none⟩)))], [some (cellsR b1 38 [vU32 rp0.Type_, vU64 rp0.Sector, vrp01, vI rp0.Room, vrp02]), some (cellsR b2 38 [vU32 (0 : UInt32), vU64 (0 : UInt64), .slice none 0 0, vI (0 : Int), .slice none 0 0]), some (rowS RangeS v3 rp0.Ranges)], [Fact.sl u8S vrp01 rp0.Data, Fact.sl RangeS vrp02 rp0.Ranges, Fact.sl u8S v1 own1]⟩ from ?_) a w (hs.wkS [1, 2, 5, 9, 10] [0, 1, 2] [0, 1, 2] rfl rfl rfl rfl)
  clear hs hL
  refine TA_step htb (by kernel_rfl) rfl rfl (OpT_storeV (cs' := [vU32 rp0.Type_, vU64 rp0.Sector, v1, vI rp0.Room, vrp02]) rfl rfl rfl rfl tyF35 (i := 0) rfl (is_sl (i := 2) rfl) rfl rfl) ?_
  refine TA_step htb (by kernel_rfl) rfl rfl (OpT_fieldC rfl rfl rfl rfl fldF38x4) ?_
  refine TA_step htb (by kernel_rfl) rfl rfl (OpT_storeV (cs' := [vU32 rp0.Type_, vU64 rp0.Sector, v1, vI rp0.Room, v3]) rfl rfl rfl rfl tyF36 (i := 0) rfl (is_row (i := 2) rfl) rfl rfl) ?_
  refine TA_end rfl ?_
  refine Tk_wkS (fr' := [(1, some (.pointer (some ⟨b1, 0, none⟩))), (2, some (.pointer (some ⟨b2, 0, none⟩)))]) (own' := [some (cellsR b1 38 [vU32 rp0.Type_, vU64 rp0.Sector, v1, vI rp0.Room, v3]), some (cellsR b2 38 [vU32 (0 : UInt32), vU64 (0 : UInt64), .slice none 0 0, vI (0 : Int), .slice none 0 0]), some (rowS RangeS v3 rp0.Ranges)]) (shr' := [Fact.sl u8S v1 own1]) [1, 2] [0, 1, 2] [2] rfl rfl rfl rfl ?_
  refine Tk_seq (Tk_region (Tops_step rfl (OpT_loadCA (vs := [vU32 rp0.Type_, vU64 rp0.Sector, v1, vI rp0.Room, v3]) rfl rfl rfl rfl tyF38 (i := 0) rfl rfl rfl) ?_))
  refine Tops_step rfl (OpT_storeA2 (fun z0 z1 => [vU32 rp0.Type_, vU64 rp0.Sector, z0, vI rp0.Room, z1]) (cs' := [vU32 rp0.Type_, vU64 rp0.Sector, v1, vI rp0.Room, v3]) rfl rfl rfl rfl tyF38 (i := 1) rfl (is_sl (i := 0) rfl) (is_row (i := 2) rfl) (fun _ _ _ _ _ _ => rfl) rfl rfl rfl) ?_
  refine Tops_nil (Tk_wkS (fr' := [(2, some (.pointer (some ⟨b2, 0, none⟩)))]) (own' := [some (cellsR b2 38 [vU32 rp0.Type_, vU64 rp0.Sector, v1, vI rp0.Room, v3]), some (rowS RangeS v3 rp0.Ranges)]) (shr' := [Fact.sl u8S v1 own1]) [2] [1, 2] [0] rfl rfl rfl rfl ?_)
  obtain rfl := Option.some.inj h
  exact Tk_retV rfl rfl (resA (vs := [.agg #[vU32 rp0.Type_, vU64 rp0.Sector, v1, vI rp0.Room, v3]]) rfl ⟨⟨_, 0, _, _, _, rfl, rfl, .inl ⟨tyF38, rfl, rfl⟩⟩, trivial⟩) [1] [0] rfl rfl rfl ⟨v1, v3, rfl, rfl, rfl⟩

set_option maxRecDepth 100000 in
set_option maxHeartbeats 4000000 in
theorem w_slices_Grow_bytebyten0 {np1 : Int} {r : (List UInt8)} (h : slices_Grow_bytebyten0 np1 = some r) :
  Ctr Try.prog 76 #[.slice none 0 0, vI np1] [] []
   (fun rv own shr => ∃ (w1 : Value), rv = w1 ∧ own = [(rowS u8S w1 r)] ∧ shr = []) := by
 unfold slices_Grow_bytebyten0 at h
 refine Ctr.mk (args := [.slice none 0 0, vI np1]) Try.func76 rfl rfl (fun R0 w0 B => ?_)
 refine Tk_seq (Tk_region (Tops_step rfl (OpT_assign rfl rfl rfl rfl) ?_))
 refine Tops_nil (Tk_wkS (fr' := [(0, some (.slice none 0 0)), (1, some (vI np1))]) (own' := []) (shr' := []) [0, 1] [] [] rfl rfl rfl rfl ?_)
 refine Tk_seq (Tk_seq (Tk_region (Tops_step rfl (OpT_move rfl rfl rfl rfl) ?_)))
 refine Tops_step rfl (OpT_bin rfl rfl rfl rfl rfl (bin_lss_i (a := np1) (b := (0 : Int)))) ?_
 refine Tops_nil (Tk_wkS (fr' := [(0, some (.slice none 0 0)), (1, some (vI np1)), (6, some (vB (decide (np1 < (0 : Int)))))]) (own' := []) (shr' := []) [0, 1, 6] [] [] rfl rfl rfl rfl ?_)
 refine Tk_join (α := Unit) (fun s => ⟨[(0, some (.slice none 0 0)), (1, some (vI np1))], [], []⟩) (fun s => slices_Grow_bytebyten0J1 np1 = some r) ?_ ?_
 ·rintro _ h
  replace h : slices_Grow_bytebyten0J1 np1 = some r := h
  unfold slices_Grow_bytebyten0J1 at h
  refine Tk_seq (Tk_seq (Tk_region (Tops_step rfl (OpT_move rfl rfl rfl rfl) ?_)))
  refine Tops_step rfl (OpT_move rfl rfl rfl rfl) ?_
  refine Tops_step rfl (OpT_capN rfl rfl rfl rfl Try.underlying35) ?_
  refine Tops_step rfl (OpT_move rfl rfl rfl rfl) ?_
  refine Tops_step rfl (OpT_lenE rfl rfl rfl rfl Try.underlying35) ?_
  refine Tops_step rfl (OpT_bin rfl rfl rfl rfl rfl (bin_sub_i (a := (0 : Int)) (b := (0 : Int)))) ?_
  refine Tops_step rfl (OpT_bin rfl rfl rfl rfl rfl (bin_sub_i (a := np1) (b := wi ((0 : Int) - (0 : Int))))) ?_
  refine Tops_step rfl (OpT_assign rfl rfl rfl rfl) ?_
  refine Tops_nil (Tk_wkS (fr' := [(0, some (.slice none 0 0)), (1, some (vI (wi (np1 - (wi ((0 : Int) - (0 : Int)))))))]) (own' := []) (shr' := []) [0, 1] [] [] rfl rfl rfl rfl ?_)
  refine Tk_seq (Tk_region (Tops_step rfl (OpT_move rfl rfl rfl rfl) ?_))
  refine Tops_step rfl (OpT_bin rfl rfl rfl rfl rfl (bin_gtr_i (a := wi (np1 - (wi ((0 : Int) - (0 : Int))))) (b := (0 : Int)))) ?_
  refine Tops_nil (Tk_wkS (fr' := [(0, some (.slice none 0 0)), (1, some (vI (wi (np1 - (wi ((0 : Int) - (0 : Int))))))), (16, some (vB (decide ((wi (np1 - (wi ((0 : Int) - (0 : Int))))) > (0 : Int)))))]) (own' := []) (shr' := []) [0, 1, 16] [] [] rfl rfl rfl rfl ?_)
  rcases Bool.eq_false_or_eq_true (decide ((wi (np1 - (wi ((0 : Int) - (0 : Int))))) > (0 : Int))) with hg1 | hg1
  ·replace h := br_t hg1 h
   refine Tk_condT (congrArg (fun b => some (Value.bool b)) hg1) ?_
   refine Tk_region (Tops_step rfl (OpT_move rfl rfl rfl rfl) ?_)
   refine Tops_step rfl (OpT_move rfl rfl rfl rfl) ?_
   refine Tops_step rfl (OpT_capN rfl rfl rfl rfl Try.underlying35) ?_
   refine Tops_step rfl (OpT_sliceN rfl rfl rfl rfl rfl Try.underlying35 ⟨_, (slF35).sz⟩) ?_
   refine Tops_step rfl (OpT_move rfl rfl rfl rfl) ?_
   obtain ⟨hc1, h⟩ := chk_e h
   refine Tops_ex rfl (OpT_appendZ u8S rfl (l := wi (np1 - (wi ((0 : Int) - (0 : Int))))) (u := (0 : UInt8)) rfl rfl rfl rfl rfl slF35 Try.underlying3 rfl hc1) fun v1 => ?_
   refine Tops_step rfl (OpT_move rfl rfl rfl rfl) ?_
   refine Tops_step rfl (OpT_lenE rfl rfl rfl rfl Try.underlying35) ?_
   obtain ⟨hc2, h⟩ := chk_e h
   refine Tops_ex rfl (OpT_sliceO (m := (0 : Int)) rfl rfl rfl rfl rfl slF35 (i := 0) rfl hc2) fun v2 => ?_
   refine Tops_step rfl (OpT_assign rfl rfl rfl rfl) ?_
   refine Tops_nil (Tk_wkS (fr' := [(0, some (v2))]) (own' := [some (rowS u8S v2 ((List.replicate (wi (np1 - (wi ((0 : Int) - (0 : Int))))).toNat (0 : UInt8)).take (0 : Int).toNat))]) (shr' := []) [0] [0] [] rfl rfl rfl rfl ?_)
   refine Tk_seq (Tk_region (Tops_step rfl (OpT_move rfl rfl rfl rfl) ?_))
   refine Tops_step rfl (OpT_assign rfl rfl rfl rfl) ?_
   refine Tops_nil (Tk_wkS (fr' := [(4, some (v2))]) (own' := [some (rowS u8S v2 ((List.replicate (wi (np1 - (wi ((0 : Int) - (0 : Int))))).toNat (0 : UInt8)).take (0 : Int).toNat))]) (shr' := []) [4] [0] [] rfl rfl rfl rfl ?_)
   obtain rfl := Option.some.inj h
   exact Tk_retV rfl rfl (resA (vs := [v2]) rfl ⟨rfl, trivial⟩) [0] [] rfl rfl rfl ⟨v2, rfl, rfl, rfl⟩
  ·replace h := br_f hg1 h
   refine Tk_condF (congrArg (fun b => some (Value.bool b)) hg1) ?_
   refine Tk_skip (Tk_seq (Tk_region (Tops_step rfl (OpT_move rfl rfl rfl rfl) ?_)))
   refine Tops_step rfl (OpT_assign rfl rfl rfl rfl) ?_
   refine Tops_nil (Tk_wkS (fr' := [(4, some (.slice none 0 0))]) (own' := []) (shr' := []) [4] [] [] rfl rfl rfl rfl ?_)
   refine Tk_nilrow u8S ?_
   obtain rfl := Option.some.inj h
   exact Tk_retV rfl rfl (resA (vs := [.slice none 0 0]) rfl ⟨rfl, trivial⟩) [0] [] rfl rfl rfl ⟨(.slice none 0 0), rfl, rfl, rfl⟩
 ·intro HJ1
  obtain ⟨hg2, h⟩ := chk_e h
  replace hg2 := not_t hg2
  refine Tk_condF (congrArg (fun b => some (Value.bool b)) hg2) ?_
  refine Tk_skip ?_
  exact Tk_jmpS (HJ1 () h) [0, 1] [] [] rfl rfl rfl rfl

set_option maxRecDepth 100000 in
set_option maxHeartbeats 4000000 in
theorem w_slices_Concat_bytebyte {slices : List (List UInt8)} {vslices1 : Value} {r : (List UInt8)} (h : slices_Concat_bytebyte slices = some r) :
  Ctr Try.prog 50 #[vslices1] [] [Fact.sl (Shape.slice u8S) vslices1 slices]
   (fun rv own shr => ∃ (w1 : Value), rv = w1 ∧ own = [(rowS u8S w1 r)] ∧ shr = []) := by
 unfold slices_Concat_bytebyte at h
 refine Ctr.mk (args := [vslices1]) Try.func50 rfl rfl (fun R0 w0 B => ?_)
 refine Tk_seq (Tk_region (Tops_step rfl (OpT_assign rfl rfl rfl rfl) ?_))
 refine Tops_nil (Tk_wkS (fr' := [(0, some (vslices1))]) (own' := []) (shr' := [Fact.sl (Shape.slice u8S) vslices1 slices]) [0] [] [0] rfl rfl rfl rfl ?_)
 refine Tk_seq (Tk_region (Tops_step rfl (OpT_assign rfl rfl rfl rfl) ?_))
 refine Tops_nil (Tk_seq (Tk_seq (Tk_region (Tops_step rfl (OpT_move rfl rfl rfl rfl) ?_))))
 refine Tops_step rfl (OpT_lenS rfl rfl rfl rfl Try.underlying81 (i := 0) rfl) ?_
 refine Tops_step rfl (OpT_move rfl rfl rfl rfl) ?_
 refine Tops_nil (Tk_block (Tk_loopS (σ := Int × Int) [0, 3, 9, 10, 11] [] [0] (fun s => ⟨[(0, some (vslices1)), (3, some (vI s.1)), (9, some (vslices1)), (10, some (vI (len slices))), (11, some (vI s.2))], [], [Fact.sl (Shape.slice u8S) vslices1 slices]⟩) (fun nf1 s => slices_Concat_bytebyteL1 slices nf1 s.1 s.2 = some r) fuel ((0 : Int), (0 : Int)) h rfl rfl rfl rfl rfl (fun s h => by cases h) ?_))
 rintro nf1 ⟨size1, x1⟩ h
 replace h : slices_Concat_bytebyteL1B slices (slices_Concat_bytebyteL1 slices nf1) size1 x1 = some r := h
 unfold slices_Concat_bytebyteL1B at h
 refine Tk_seq (Tk_region (Tops_step rfl (OpT_bin rfl rfl rfl rfl rfl (bin_lss_i (a := x1) (b := len slices))) ?_))
 refine Tops_nil (Tk_seq ?_)
 rcases Bool.eq_false_or_eq_true (decide (x1 < (len slices))) with hg1 | hg1
 ·replace h := br_t hg1 h
  refine Tk_condT (congrArg (fun b => some (Value.bool b)) hg1) ?_
  refine Tk_skip (Tk_seq (Tk_join (α := Int) (fun s => ⟨[(0, some (vslices1)), (3, some (vI s)), (9, some (vslices1)), (10, some (vI (len slices))), (11, some (vI x1))], [], [Fact.sl (Shape.slice u8S) vslices1 slices]⟩) (fun s => slices_Concat_bytebyteJ2 x1 (slices_Concat_bytebyteL1 slices nf1) s = some r) ?_ ?_))
  ·rintro size2 h
   replace h : slices_Concat_bytebyteJ2 x1 (slices_Concat_bytebyteL1 slices nf1) size2 = some r := h
   unfold slices_Concat_bytebyteJ2 at h
   refine Tk_region (Tops_step rfl (OpT_bin rfl rfl rfl rfl rfl (bin_add_i (a := x1) (b := (1 : Int)))) ?_)
   refine Tops_step rfl (OpT_move rfl rfl rfl rfl) ?_
   refine Tops_nil (Tk_wkS (fr' := [(0, some (vslices1)), (3, some (vI size2)), (9, some (vslices1)), (10, some (vI (len slices))), (11, some (vI (wi (x1 + (1 : Int)))))]) (own' := []) (shr' := [Fact.sl (Shape.slice u8S) vslices1 slices]) [0, 3, 9, 10, 11] [] [0] rfl rfl rfl rfl ?_)
   exact Tk_backS (size2, wi (x1 + (1 : Int))) h [0, 3, 9, 10, 11] [] [0] rfl rfl rfl rfl rfl
  ·intro HJ1
   refine Tk_block (Tk_seq (Tk_region ?_))
   obtain ⟨y1, hx1, h⟩ := ob_e h
   refine Tops_ex rfl (OpT_idxS rfl rfl rfl rfl rfl slF81 (i := 0) rfl hx1) fun p1 => ?_
   refine Tops_ex rfl (OpT_loadPS rfl rfl rfl rfl tyF35 (i := 1) rfl) fun v1 => ?_
   refine Tops_step rfl (OpT_assign rfl rfl rfl rfl) ?_
   refine Tops_nil (Tk_wkS (fr' := [(0, some (vslices1)), (3, some (vI size1)), (9, some (vslices1)), (10, some (vI (len slices))), (11, some (vI x1)), (5, some (v1))]) (own' := []) (shr' := [Fact.sl (Shape.slice u8S) vslices1 slices, Fact.sl u8S v1 y1]) [0, 3, 9, 10, 11, 5] [] [0, 2] rfl rfl rfl rfl ?_)
   refine Tk_seq (Tk_region (Tops_step rfl (OpT_move rfl rfl rfl rfl) ?_))
   refine Tops_step rfl (OpT_move rfl rfl rfl rfl) ?_
   refine Tops_step rfl (OpT_lenS rfl rfl rfl rfl Try.underlying35 (i := 1) rfl) ?_
   refine Tops_step rfl (OpT_bin rfl rfl rfl rfl rfl (bin_add_i (a := size1) (b := len y1))) ?_
   refine Tops_step rfl (OpT_assign rfl rfl rfl rfl) ?_
   refine Tops_nil (Tk_wkS (fr' := [(0, some (vslices1)), (3, some (vI (wi (size1 + (len y1))))), (9, some (vslices1)), (10, some (vI (len slices))), (11, some (vI x1))]) (own' := []) (shr' := [Fact.sl (Shape.slice u8S) vslices1 slices]) [0, 3, 9, 10, 11] [] [0] rfl rfl rfl rfl ?_)
   refine Tk_seq (Tk_region (Tops_step rfl (OpT_move rfl rfl rfl rfl) ?_))
   refine Tops_step rfl (OpT_bin rfl rfl rfl rfl rfl (bin_lss_i (a := wi (size1 + (len y1))) (b := (0 : Int)))) ?_
   refine Tops_nil (Tk_wkS (fr' := [(0, some (vslices1)), (3, some (vI (wi (size1 + (len y1))))), (9, some (vslices1)), (10, some (vI (len slices))), (11, some (vI x1)), (20, some (vB (decide ((wi (size1 + (len y1))) < (0 : Int)))))]) (own' := []) (shr' := [Fact.sl (Shape.slice u8S) vslices1 slices]) [0, 3, 9, 10, 11, 20] [] [0] rfl rfl rfl rfl ?_)
   refine Tk_join (α := Unit) (fun s => ⟨[(0, some (vslices1)), (3, some (vI (wi (size1 + (len y1))))), (9, some (vslices1)), (10, some (vI (len slices))), (11, some (vI x1))], [], [Fact.sl (Shape.slice u8S) vslices1 slices]⟩) (fun s => slices_Concat_bytebyteJ3 size1 x1 (slices_Concat_bytebyteL1 slices nf1) y1 = some r) ?_ ?_
   ·rintro _ h
    replace h : slices_Concat_bytebyteJ3 size1 x1 (slices_Concat_bytebyteL1 slices nf1) y1 = some r := h
    unfold slices_Concat_bytebyteJ3 at h
    refine Tk_blk ?_
    exact Tk_jmpS (HJ1 (wi (size1 + (len y1))) h) [0, 3, 9, 10, 11] [] [0] rfl rfl rfl rfl
   ·intro HJ2
    obtain ⟨hg2, h⟩ := chk_e h
    replace hg2 := not_t hg2
    refine Tk_condF (congrArg (fun b => some (Value.bool b)) hg2) ?_
    refine Tk_skip ?_
    exact Tk_jmpS (HJ2 () h) [0, 3, 9, 10, 11] [] [0] rfl rfl rfl rfl
 ·replace h := br_f hg1 h
  refine Tk_condF (congrArg (fun b => some (Value.bool b)) hg1) ?_
  refine Tk_exit _ rfl ?_
  refine Tk_seq (Tk_region (Tops_step rfl (OpT_move rfl rfl rfl rfl) ?_))
  obtain ⟨growby1, hx2, h⟩ := ob_e h
  refine Tops_exP rfl (OpT_call (w_slices_Grow_bytebyten0 hx2) [] [] rfl rfl rfl rfl rfl callee76 rfl rfl rfl rfl) ?_
  rintro _ ⟨v2, _, _, ⟨_, rfl, rfl, rfl⟩, rfl⟩
  refine Tops_step rfl (OpT_assign rfl rfl rfl rfl) ?_
  refine Tops_nil (Tk_wkS (fr' := [(0, some (vslices1)), (6, some (v2))]) (own' := [some (rowS u8S v2 growby1)]) (shr' := [Fact.sl (Shape.slice u8S) vslices1 slices]) [0, 6] [0] [0] rfl rfl rfl rfl ?_)
  refine Tk_seq (Tk_seq (Tk_region (Tops_step rfl (OpT_move rfl rfl rfl rfl) ?_)))
  refine Tops_step rfl (OpT_lenS rfl rfl rfl rfl Try.underlying81 (i := 0) rfl) ?_
  refine Tops_step rfl (OpT_move rfl rfl rfl rfl) ?_
  refine Tops_nil (Tk_wkS (fr' := [(6, some (v2)), (25, some (vslices1)), (26, some (vI (len slices))), (27, some (vI (0 : Int)))]) (own' := [some (rowS u8S v2 growby1)]) (shr' := [Fact.sl (Shape.slice u8S) vslices1 slices]) [6, 25, 26, 27] [0] [0] rfl rfl rfl rfl ?_)
  refine Tk_block (Tk_loopS (σ := (List UInt8) × Int × Value) [6, 25, 26, 27] [0] [0] (fun s => ⟨[(6, some (s.2.2)), (25, some (vslices1)), (26, some (vI (len slices))), (27, some (vI s.2.1))], [some (rowS u8S s.2.2 s.1)], [Fact.sl (Shape.slice u8S) vslices1 slices]⟩) (fun nf4 s => slices_Concat_bytebyteL4 slices nf4 s.1 s.2.1 = some r) fuel (growby1, (0 : Int), v2) h rfl rfl rfl rfl rfl (fun s h => by cases h) ?_)
  rintro nf4 ⟨newslice1, x2, v3⟩ h
  replace h : slices_Concat_bytebyteL4B slices (slices_Concat_bytebyteL4 slices nf4) newslice1 x2 = some r := h
  unfold slices_Concat_bytebyteL4B at h
  refine Tk_seq (Tk_region (Tops_step rfl (OpT_bin rfl rfl rfl rfl rfl (bin_lss_i (a := x2) (b := len slices))) ?_))
  refine Tops_nil (Tk_seq ?_)
  rcases Bool.eq_false_or_eq_true (decide (x2 < (len slices))) with hg3 | hg3
  ·replace h := br_t hg3 h
   refine Tk_condT (congrArg (fun b => some (Value.bool b)) hg3) ?_
   refine Tk_skip (Tk_seq (Tk_block (Tk_seq (Tk_region ?_))))
   obtain ⟨y2, hx3, h⟩ := ob_e h
   refine Tops_ex rfl (OpT_idxS rfl rfl rfl rfl rfl slF81 (i := 0) rfl hx3) fun p2 => ?_
   refine Tops_ex rfl (OpT_loadPS rfl rfl rfl rfl tyF35 (i := 1) rfl) fun v4 => ?_
   refine Tops_step rfl (OpT_assign rfl rfl rfl rfl) ?_
   refine Tops_nil (Tk_wkS (fr' := [(6, some (v3)), (25, some (vslices1)), (26, some (vI (len slices))), (27, some (vI x2)), (8, some (v4))]) (own' := [some (rowS u8S v3 newslice1)]) (shr' := [Fact.sl (Shape.slice u8S) vslices1 slices, Fact.sl u8S v4 y2]) [6, 25, 26, 27, 8] [0] [0, 2] rfl rfl rfl rfl ?_)
   refine Tk_region (Tops_step rfl (OpT_move rfl rfl rfl rfl) ?_)
   refine Tops_step rfl (OpT_move rfl rfl rfl rfl) ?_
   obtain ⟨hc1, h⟩ := chk_e h
   refine Tops_ex rfl (OpT_append rfl rfl rfl rfl rfl slF35 (i := 0) (j := 1) rfl rfl hc1) fun v5 => ?_
   refine Tops_step rfl (OpT_assign rfl rfl rfl rfl) ?_
   refine Tops_nil (Tk_wkS (fr' := [(6, some (v5)), (25, some (vslices1)), (26, some (vI (len slices))), (27, some (vI x2))]) (own' := [some (rowS u8S v5 (newslice1 ++ y2))]) (shr' := [Fact.sl (Shape.slice u8S) vslices1 slices]) [6, 25, 26, 27] [0] [0] rfl rfl rfl rfl ?_)
   refine Tk_blk (Tk_region (Tops_step rfl (OpT_bin rfl rfl rfl rfl rfl (bin_add_i (a := x2) (b := (1 : Int)))) ?_))
   refine Tops_step rfl (OpT_move rfl rfl rfl rfl) ?_
   refine Tops_nil (Tk_wkS (fr' := [(6, some (v5)), (25, some (vslices1)), (26, some (vI (len slices))), (27, some (vI (wi (x2 + (1 : Int)))))]) (own' := [some (rowS u8S v5 (newslice1 ++ y2))]) (shr' := [Fact.sl (Shape.slice u8S) vslices1 slices]) [6, 25, 26, 27] [0] [0] rfl rfl rfl rfl ?_)
   exact Tk_backS (newslice1 ++ y2, wi (x2 + (1 : Int)), v5) h [6, 25, 26, 27] [0] [0] rfl rfl rfl rfl rfl
  ·replace h := br_f hg3 h
   refine Tk_condF (congrArg (fun b => some (Value.bool b)) hg3) ?_
   refine Tk_exit _ rfl ?_
   refine Tk_seq (Tk_region (Tops_step rfl (OpT_move rfl rfl rfl rfl) ?_))
   refine Tops_step rfl (OpT_assign rfl rfl rfl rfl) ?_
   refine Tops_nil (Tk_wkS (fr' := [(2, some (v3))]) (own' := [some (rowS u8S v3 newslice1)]) (shr' := []) [2] [0] [] rfl rfl rfl rfl ?_)
   obtain rfl := Option.some.inj h
   exact Tk_retV rfl rfl (resA (vs := [v3]) rfl ⟨rfl, trivial⟩) [0] [] rfl rfl rfl ⟨v3, rfl, rfl, rfl⟩

set_option maxRecDepth 100000 in
set_option maxHeartbeats 4000000 in
theorem w_gmem_Mem_Image {m : gmem_Mem} {b_m : Nat} {vm1 : Value} {vm2 : Value} {vsm1 : List Value} {r : (List UInt8)} (h : gmem_Mem_Image m = some r) :
  Ctr Try.prog 21 #[.pointer (some ⟨b_m, 0, none⟩)] [(cellsR b_m 83 [vm1, vm2]), (rowsX u8S true vm2 vsm1 m.b none)] [Fact.sl RegionS vm1 m.l]
   (fun rv own shr => ∃ (w1 : Value), rv = w1 ∧ own = [(cellsR b_m 83 [vm1, vm2]), (rowsX u8S true vm2 vsm1 m.b none), (rowS u8S w1 r)] ∧ shr = []) := by
 unfold gmem_Mem_Image at h
 refine Ctr.mk (args := [.pointer (some ⟨b_m, 0, none⟩)]) Try.func21 rfl rfl (fun R0 w0 B => ?_)
 refine Tk_seq (Tk_region (Tops_step rfl (OpT_assign rfl rfl rfl rfl) ?_))
 refine Tops_nil (Tk_wkS (fr' := [(0, some (.pointer (some ⟨b_m, 0, none⟩)))]) (own' := [some (cellsR b_m 83 [vm1, vm2]), some (rowsX u8S true vm2 vsm1 m.b none)]) (shr' := [Fact.sl RegionS vm1 m.l]) [0] [0, 1] [0] rfl rfl rfl rfl ?_)
 refine Tk_seq (Tk_seq (Tk_region (Tops_step rfl (OpT_move rfl rfl rfl rfl) ?_)))
 obtain ⟨made1, hx1, h⟩ := ob_e h
 refine Tops_exP rfl (OpT_callP [2, 3] (w_gmem_Mem_made hx1) [0, 1] [0] rfl rfl rfl rfl rfl callee45 rfl rfl rfl rfl rfl) ?_
 rintro _ ⟨_, _, _, ⟨rfl, rfl, rfl⟩, rfl⟩
 refine Tops_step rfl (OpT_not rfl rfl rfl rfl) ?_
 refine Tops_nil (Tk_wkS (fr' := [(0, some (.pointer (some ⟨b_m, 0, none⟩))), (5, some (vB (!made1)))]) (own' := [some (cellsR b_m 83 [vm1, vm2]), some (rowsX u8S true vm2 vsm1 m.b none)]) (shr' := [Fact.sl RegionS vm1 m.l]) [0, 5] [0, 1] [0] rfl rfl rfl rfl ?_)
 refine Tk_condF (congrArg (fun b => some (Value.bool b)) (congrArg (!·) (Option.some.inj (show some true = some made1 from hx1)).symm)) ?_
 refine Tk_skip (Tk_seq (Tk_region (Tops_step rfl (OpT_move rfl rfl rfl rfl) ?_)))
 refine Tops_step rfl (OpT_nilCheckP rfl rfl rfl rfl) ?_
 refine Tops_step rfl (OpT_fieldC rfl rfl rfl rfl fldF83x1) ?_
 refine Tops_step rfl (OpT_loadC rfl rfl rfl rfl tyF81 (i := 0) rfl rfl) ?_
 obtain ⟨concat1, hx2, h⟩ := ob_e h
 refine Tops_exP rfl (OpT_callB [1] [0, 1, 2] (w_slices_Concat_bytebyte hx2) [] rfl rfl rfl rfl rfl callee50 rfl rfl rfl rfl rfl rfl (bor_cons (bor_rows 1 rfl rfl) bor_nil) (by rintro _ _ _ ⟨_, rfl, rfl, rfl⟩; exact ⟨rfl, (ri_cons (ri_row (S := u8S) rfl _ _) ri_nil)⟩)) ?_
 rintro _ ⟨v1, _, _, ⟨_, rfl, rfl, rfl⟩, rfl⟩
 refine Tops_step rfl (OpT_assign rfl rfl rfl rfl) ?_
 refine Tops_nil (Tk_wkS (fr' := [(2, some (v1))]) (own' := [some (cellsR b_m 83 [vm1, vm2]), some (rowsX u8S true vm2 vsm1 m.b none), some (rowS u8S v1 concat1)]) (shr' := [Fact.sl RegionS vm1 m.l]) [2] [0, 1, 2] [0] rfl rfl rfl rfl ?_)
 obtain rfl := Option.some.inj h
 exact Tk_retV rfl rfl (resA (vs := [v1]) rfl ⟨rfl, trivial⟩) [0, 1, 2] [] rfl rfl rfl ⟨v1, rfl, rfl, rfl⟩

set_option maxRecDepth 100000 in
set_option maxHeartbeats 4000000 in
theorem w_ref_ranged21 {tp0 : UInt32} {r : Bool} (h : ref_ranged21 tp0 = some r) :
  Ctr Try.prog 63 #[vU32 tp0] [] []
   (fun rv own shr => rv = vB r ∧ own = [] ∧ shr = []) := by
 unfold ref_ranged21 at h
 refine Ctr.mk (args := [vU32 tp0]) Try.func63 rfl rfl (fun R0 w0 B => ?_)
 refine Tk_seq (Tk_region (Tops_step rfl (OpT_assign rfl rfl rfl rfl) ?_))
 refine Tops_nil (Tk_wkS (fr' := [(0, some (vU32 tp0))]) (own' := []) (shr' := []) [0] [] [] rfl rfl rfl rfl ?_)
 refine Tk_seq (Tk_region (Tops_step rfl (OpT_move rfl rfl rfl rfl) ?_))
 refine Tops_step rfl (OpT_bin rfl rfl rfl rfl rfl (bin_eql_u32 (a := tp0) (b := (11 : UInt32)))) ?_
 refine Tops_step rfl (OpT_move rfl rfl rfl rfl) ?_
 rcases Bool.eq_false_or_eq_true (tp0 == (11 : UInt32)) with hg1 | hg1
 ·replace h := br_t hg1 h
  refine Tops_no rfl rfl (congrArg (fun b => some (Value.bool b)) hg1) rfl rfl ?_
  refine Tops_no rfl rfl (congrArg (fun b => some (Value.bool b)) hg1) rfl rfl ?_
  refine Tops_step rfl (OpT_pickT rfl rfl rfl (congrArg (fun b => some (Value.bool b)) hg1) rfl) ?_
  refine Tops_step rfl (OpT_assign rfl rfl rfl rfl) ?_
  refine Tops_nil (Tk_wkS (fr' := [(2, some (vB true))]) (own' := []) (shr' := []) [2] [] [] rfl rfl rfl rfl ?_)
  obtain rfl := Option.some.inj h
  exact Tk_retV rfl rfl (resA (vs := [vB true]) rfl ⟨rfl, trivial⟩) [] [] rfl rfl rfl ⟨rfl, rfl, rfl⟩
 ·replace h := br_f hg1 h
  refine Tops_yes rfl rfl (congrArg (fun b => some (Value.bool b)) hg1) (OpT_move rfl rfl rfl rfl) ?_
  rintro _ rfl
  refine Tops_yes rfl rfl (congrArg (fun b => some (Value.bool b)) hg1) (OpT_bin rfl rfl rfl rfl rfl (bin_eql_u32 (a := tp0) (b := (13 : UInt32)))) ?_
  rintro _ rfl
  refine Tops_step rfl (OpT_pickF rfl rfl rfl (congrArg (fun b => some (Value.bool b)) hg1) rfl) ?_
  refine Tops_step rfl (OpT_assign rfl rfl rfl rfl) ?_
  refine Tops_nil (Tk_wkS (fr' := [(2, some (vB (tp0 == (13 : UInt32))))]) (own' := []) (shr' := []) [2] [] [] rfl rfl rfl rfl ?_)
  obtain rfl := Option.some.inj h
  exact Tk_retV rfl rfl (resA (vs := [vB (tp0 == (13 : UInt32))]) rfl ⟨rfl, trivial⟩) [] [] rfl rfl rfl ⟨rfl, rfl, rfl⟩

set_option maxRecDepth 100000 in
set_option maxHeartbeats 4000000 in
theorem w_ref_Check21 {rp0 : Req} {vrp01 : Value} {vrp02 : Value} {r : Int} (h : ref_Check21 rp0 = some r) :
  Ctr Try.prog 35 #[.agg #[vU32 rp0.Type_, vU64 rp0.Sector, vrp01, vI rp0.Room, vrp02]] [] [Fact.sl u8S vrp01 rp0.Data, Fact.sl RangeS vrp02 rp0.Ranges]
   (fun rv own shr => rv = vI r ∧ own = [] ∧ shr = []) := by
 unfold ref_Check21 at h
 refine Ctr.mk (args := [.agg #[vU32 rp0.Type_, vU64 rp0.Sector, vrp01, vI rp0.Room, vrp02]]) Try.func35 rfl rfl (fun R0 w0 B => ?_)
 refine Tk_seq (Tk_region (Tops_ex rfl (OpT_box rfl rfl rfl rfl) fun b1 => ?_))
 refine Tops_step rfl (OpT_assign rfl rfl rfl rfl) ?_
 refine Tops_nil (Tk_wkS (fr' := [(1, some (.pointer (some ⟨b1, 0, none⟩)))]) (own' := [some (cellsR b1 38 [vU32 rp0.Type_, vU64 rp0.Sector, vrp01, vI rp0.Room, vrp02])]) (shr' := [Fact.sl u8S vrp01 rp0.Data, Fact.sl RangeS vrp02 rp0.Ranges]) [1] [0] [0, 1] rfl rfl rfl rfl ?_)
 refine Tk_seq (Tk_seq (Tk_region (Tops_step rfl (OpT_fieldC rfl rfl rfl rfl fldF38x4) ?_)))
 refine Tops_step rfl (OpT_loadC rfl rfl rfl rfl tyF36 (i := 0) rfl rfl) ?_
 refine Tops_step rfl (OpT_lenS rfl rfl rfl rfl Try.underlying36 (i := 1) rfl) ?_
 refine Tops_step rfl (OpT_bin rfl rfl rfl rfl rfl (bin_gtr_i (a := len rp0.Ranges) (b := (16 : Int)))) ?_
 refine Tops_step rfl (OpT_move rfl rfl rfl rfl) ?_
 rcases Bool.eq_false_or_eq_true (decide ((len rp0.Ranges) > (16 : Int))) with hg1 | hg1
 ·replace h := br_t hg1 h
  refine Tops_no rfl rfl (congrArg (fun b => some (Value.bool b)) hg1) rfl rfl ?_
  refine Tops_no rfl rfl (congrArg (fun b => some (Value.bool b)) hg1) rfl rfl ?_
  refine Tops_no rfl rfl (congrArg (fun b => some (Value.bool b)) hg1) rfl rfl ?_
  refine Tops_no rfl rfl (congrArg (fun b => some (Value.bool b)) hg1) rfl rfl ?_
  refine Tops_no rfl rfl (congrArg (fun b => some (Value.bool b)) hg1) rfl rfl ?_
  refine Tops_noU rfl rfl rfl rfl rfl ?_
  refine Tops_noU rfl rfl rfl rfl rfl ?_
  refine Tops_noU rfl rfl rfl rfl rfl ?_
  refine Tops_noU rfl rfl rfl rfl rfl ?_
  refine Tops_noU rfl rfl rfl rfl rfl ?_
  refine Tops_noU rfl rfl rfl rfl rfl ?_
  refine Tops_noU rfl rfl rfl rfl rfl ?_
  refine Tops_noU rfl rfl rfl rfl rfl ?_
  refine Tops_noU rfl rfl rfl rfl rfl ?_
  refine Tops_noU rfl rfl rfl rfl rfl ?_
  refine Tops_no rfl rfl (congrArg (fun b => some (Value.bool b)) hg1) rfl rfl ?_
  refine Tops_step rfl (OpT_pickT rfl rfl rfl (congrArg (fun b => some (Value.bool b)) hg1) rfl) ?_
  refine Tops_step rfl (OpT_move rfl rfl rfl rfl) ?_
  refine Tops_no rfl rfl rfl rfl rfl ?_
  refine Tops_no rfl rfl rfl rfl rfl ?_
  refine Tops_no rfl rfl rfl rfl rfl ?_
  refine Tops_step rfl (OpT_pickT rfl rfl rfl rfl rfl) ?_
  refine Tops_nil (Tk_wkS (fr' := [(29, some (vB true))]) (own' := []) (shr' := []) [29] [] [] rfl rfl rfl rfl ?_)
  refine Tk_condT rfl ?_
  refine Tk_seq (Tk_region (Tops_step rfl (OpT_assign rfl rfl rfl rfl) ?_))
  refine Tops_nil (Tk_wkS (fr' := [(2, some (vI (2 : Int)))]) (own' := []) (shr' := []) [2] [] [] rfl rfl rfl rfl ?_)
  obtain rfl := Option.some.inj h
  exact Tk_retV rfl rfl (resA (vs := [vI (2 : Int)]) rfl ⟨rfl, trivial⟩) [] [] rfl rfl rfl ⟨rfl, rfl, rfl⟩
 ·replace h := br_f hg1 h
  refine Tops_yes rfl rfl (congrArg (fun b => some (Value.bool b)) hg1) (OpT_fieldC rfl rfl rfl rfl fldF38x4) ?_
  rintro _ rfl
  refine Tops_yes rfl rfl (congrArg (fun b => some (Value.bool b)) hg1) (OpT_loadC rfl rfl rfl rfl tyF36 (i := 0) rfl rfl) ?_
  rintro _ rfl
  refine Tops_yes rfl rfl (congrArg (fun b => some (Value.bool b)) hg1) (OpT_lenS rfl rfl rfl rfl Try.underlying36 (i := 1) rfl) ?_
  rintro _ rfl
  refine Tops_yes rfl rfl (congrArg (fun b => some (Value.bool b)) hg1) (OpT_bin rfl rfl rfl rfl rfl (bin_gtr_i (a := len rp0.Ranges) (b := (0 : Int)))) ?_
  rintro _ rfl
  refine Tops_yes rfl rfl (congrArg (fun b => some (Value.bool b)) hg1) (OpT_move rfl rfl rfl rfl) ?_
  rintro _ rfl
  rcases Bool.eq_false_or_eq_true (decide ((len rp0.Ranges) > (0 : Int))) with hg2 | hg2
  ·replace h := br_t hg2 h
   refine Tops_yes rfl rfl (congrArg (fun b => some (Value.bool b)) hg2) (OpT_fieldC rfl rfl rfl rfl fldF38x0) ?_
   rintro _ rfl
   refine Tops_yes rfl rfl (congrArg (fun b => some (Value.bool b)) hg2) (OpT_loadC rfl rfl rfl rfl tyF30 (i := 0) rfl rfl) ?_
   rintro _ rfl
   obtain ⟨ranged1, hx1, h⟩ := ob_e h
   refine Tops_yes rfl rfl (congrArg (fun b => some (Value.bool b)) hg2) (OpT_call (w_ref_ranged21 hx1) [] [] rfl rfl rfl rfl rfl callee63 rfl rfl rfl rfl) ?_
   rintro _ ⟨_, _, _, ⟨rfl, rfl, rfl⟩, rfl⟩
   refine Tops_yes rfl rfl (congrArg (fun b => some (Value.bool b)) hg2) (OpT_not rfl rfl rfl rfl) ?_
   rintro _ rfl
   refine Tops_yes rfl rfl (congrArg (fun b => some (Value.bool b)) hg2) (OpT_move rfl rfl rfl rfl) ?_
   rintro _ rfl
   rcases Bool.eq_false_or_eq_true ((!ranged1)) with hg3 | hg3
   ·replace h := br_t hg3 h
    refine Tops_no rfl rfl (congrArg (fun b => some (Value.bool b)) hg3) rfl rfl ?_
    refine Tops_no rfl rfl (congrArg (fun b => some (Value.bool b)) hg3) rfl rfl ?_
    refine Tops_no rfl rfl (congrArg (fun b => some (Value.bool b)) hg3) rfl rfl ?_
    refine Tops_no rfl rfl (congrArg (fun b => some (Value.bool b)) hg3) rfl rfl ?_
    refine Tops_yes rfl rfl (congrArg (fun b => some (Value.bool b)) hg2) (OpT_pickT rfl rfl rfl (congrArg (fun b => some (Value.bool b)) hg3) rfl) ?_
    rintro _ rfl
    refine Tops_yes rfl rfl (congrArg (fun b => some (Value.bool b)) hg1) (OpT_pickT rfl rfl rfl (congrArg (fun b => some (Value.bool b)) hg2) rfl) ?_
    rintro _ rfl
    refine Tops_step rfl (OpT_pickF rfl rfl rfl (congrArg (fun b => some (Value.bool b)) hg1) rfl) ?_
    refine Tops_step rfl (OpT_move rfl rfl rfl rfl) ?_
    refine Tops_no rfl rfl rfl rfl rfl ?_
    refine Tops_no rfl rfl rfl rfl rfl ?_
    refine Tops_no rfl rfl rfl rfl rfl ?_
    refine Tops_step rfl (OpT_pickT rfl rfl rfl rfl rfl) ?_
    refine Tops_nil (Tk_wkS (fr' := [(29, some (vB true))]) (own' := []) (shr' := []) [29] [] [] rfl rfl rfl rfl ?_)
    refine Tk_condT rfl ?_
    refine Tk_seq (Tk_region (Tops_step rfl (OpT_assign rfl rfl rfl rfl) ?_))
    refine Tops_nil (Tk_wkS (fr' := [(2, some (vI (2 : Int)))]) (own' := []) (shr' := []) [2] [] [] rfl rfl rfl rfl ?_)
    obtain rfl := Option.some.inj h
    exact Tk_retV rfl rfl (resA (vs := [vI (2 : Int)]) rfl ⟨rfl, trivial⟩) [] [] rfl rfl rfl ⟨rfl, rfl, rfl⟩
   ·replace h := br_f hg3 h
    refine Tops_yes rfl rfl (congrArg (fun b => some (Value.bool b)) hg3) (OpT_fieldC rfl rfl rfl rfl fldF38x2) ?_
    rintro _ rfl
    refine Tops_yes rfl rfl (congrArg (fun b => some (Value.bool b)) hg3) (OpT_loadC rfl rfl rfl rfl tyF35 (i := 0) rfl rfl) ?_
    rintro _ rfl
    refine Tops_yes rfl rfl (congrArg (fun b => some (Value.bool b)) hg3) (OpT_lenS rfl rfl rfl rfl Try.underlying35 (i := 0) rfl) ?_
    rintro _ rfl
    refine Tops_yes rfl rfl (congrArg (fun b => some (Value.bool b)) hg3) (OpT_bin rfl rfl rfl rfl rfl (bin_gtr_i (a := len rp0.Data) (b := (0 : Int)))) ?_
    rintro _ rfl
    refine Tops_yes rfl rfl (congrArg (fun b => some (Value.bool b)) hg2) (OpT_pickF rfl rfl rfl (congrArg (fun b => some (Value.bool b)) hg3) rfl) ?_
    rintro _ rfl
    refine Tops_yes rfl rfl (congrArg (fun b => some (Value.bool b)) hg1) (OpT_pickT rfl rfl rfl (congrArg (fun b => some (Value.bool b)) hg2) rfl) ?_
    rintro _ rfl
    refine Tops_step rfl (OpT_pickF rfl rfl rfl (congrArg (fun b => some (Value.bool b)) hg1) rfl) ?_
    refine Tops_step rfl (OpT_move rfl rfl rfl rfl) ?_
    rcases Bool.eq_false_or_eq_true (decide ((len rp0.Data) > (0 : Int))) with hg4 | hg4
    ·replace h := br_t hg4 h
     refine Tops_no rfl rfl (congrArg (fun b => some (Value.bool b)) hg4) rfl rfl ?_
     refine Tops_no rfl rfl (congrArg (fun b => some (Value.bool b)) hg4) rfl rfl ?_
     refine Tops_no rfl rfl (congrArg (fun b => some (Value.bool b)) hg4) rfl rfl ?_
     refine Tops_step rfl (OpT_pickT rfl rfl rfl (congrArg (fun b => some (Value.bool b)) hg4) rfl) ?_
     refine Tops_nil (Tk_wkS (fr' := [(29, some (vB true))]) (own' := []) (shr' := []) [29] [] [] rfl rfl rfl rfl ?_)
     refine Tk_condT rfl ?_
     refine Tk_seq (Tk_region (Tops_step rfl (OpT_assign rfl rfl rfl rfl) ?_))
     refine Tops_nil (Tk_wkS (fr' := [(2, some (vI (2 : Int)))]) (own' := []) (shr' := []) [2] [] [] rfl rfl rfl rfl ?_)
     obtain rfl := Option.some.inj h
     exact Tk_retV rfl rfl (resA (vs := [vI (2 : Int)]) rfl ⟨rfl, trivial⟩) [] [] rfl rfl rfl ⟨rfl, rfl, rfl⟩
    ·replace h := br_f hg4 h
     refine Tops_yes rfl rfl (congrArg (fun b => some (Value.bool b)) hg4) (OpT_fieldC rfl rfl rfl rfl fldF38x3) ?_
     rintro _ rfl
     refine Tops_yes rfl rfl (congrArg (fun b => some (Value.bool b)) hg4) (OpT_loadC rfl rfl rfl rfl tyF3 (i := 0) rfl rfl) ?_
     rintro _ rfl
     refine Tops_yes rfl rfl (congrArg (fun b => some (Value.bool b)) hg4) (OpT_bin rfl rfl rfl rfl rfl (bin_lss_i (a := rp0.Room) (b := (0 : Int)))) ?_
     rintro _ rfl
     refine Tops_step rfl (OpT_pickF rfl rfl rfl (congrArg (fun b => some (Value.bool b)) hg4) rfl) ?_
     refine Tops_nil (Tk_wkS (fr' := [(29, some (vB (decide (rp0.Room < (0 : Int)))))]) (own' := []) (shr' := []) [29] [] [] rfl rfl rfl rfl ?_)
     rcases Bool.eq_false_or_eq_true (decide (rp0.Room < (0 : Int))) with hg5 | hg5
     ·replace h := br_t hg5 h
      refine Tk_condT (congrArg (fun b => some (Value.bool b)) hg5) ?_
      refine Tk_seq (Tk_region (Tops_step rfl (OpT_assign rfl rfl rfl rfl) ?_))
      refine Tops_nil (Tk_wkS (fr' := [(2, some (vI (2 : Int)))]) (own' := []) (shr' := []) [2] [] [] rfl rfl rfl rfl ?_)
      obtain rfl := Option.some.inj h
      exact Tk_retV rfl rfl (resA (vs := [vI (2 : Int)]) rfl ⟨rfl, trivial⟩) [] [] rfl rfl rfl ⟨rfl, rfl, rfl⟩
     ·replace h := br_f hg5 h
      refine Tk_condF (congrArg (fun b => some (Value.bool b)) hg5) ?_
      refine Tk_skip (Tk_seq (Tk_region (Tops_step rfl (OpT_assign rfl rfl rfl rfl) ?_)))
      refine Tops_nil (Tk_wkS (fr' := [(2, some (vI (0 : Int)))]) (own' := []) (shr' := []) [2] [] [] rfl rfl rfl rfl ?_)
      obtain rfl := Option.some.inj h
      exact Tk_retV rfl rfl (resA (vs := [vI (0 : Int)]) rfl ⟨rfl, trivial⟩) [] [] rfl rfl rfl ⟨rfl, rfl, rfl⟩
  ·replace h := br_f hg2 h
   refine Tops_no rfl rfl (congrArg (fun b => some (Value.bool b)) hg2) rfl rfl ?_
   refine Tops_no rfl rfl (congrArg (fun b => some (Value.bool b)) hg2) rfl rfl ?_
   refine Tops_no rfl rfl (congrArg (fun b => some (Value.bool b)) hg2) rfl rfl ?_
   refine Tops_no rfl rfl (congrArg (fun b => some (Value.bool b)) hg2) rfl rfl ?_
   refine Tops_no rfl rfl (congrArg (fun b => some (Value.bool b)) hg2) rfl rfl ?_
   refine Tops_noU rfl rfl rfl rfl rfl ?_
   refine Tops_noU rfl rfl rfl rfl rfl ?_
   refine Tops_noU rfl rfl rfl rfl rfl ?_
   refine Tops_noU rfl rfl rfl rfl rfl ?_
   refine Tops_no rfl rfl (congrArg (fun b => some (Value.bool b)) hg2) rfl rfl ?_
   refine Tops_yes rfl rfl (congrArg (fun b => some (Value.bool b)) hg1) (OpT_pickF rfl rfl rfl (congrArg (fun b => some (Value.bool b)) hg2) rfl) ?_
   rintro _ rfl
   refine Tops_step rfl (OpT_pickF rfl rfl rfl (congrArg (fun b => some (Value.bool b)) hg1) rfl) ?_
   refine Tops_step rfl (OpT_move rfl rfl rfl rfl) ?_
   refine Tops_yes rfl rfl rfl (OpT_fieldC rfl rfl rfl rfl fldF38x3) ?_
   rintro _ rfl
   refine Tops_yes rfl rfl rfl (OpT_loadC rfl rfl rfl rfl tyF3 (i := 0) rfl rfl) ?_
   rintro _ rfl
   refine Tops_yes rfl rfl rfl (OpT_bin rfl rfl rfl rfl rfl (bin_lss_i (a := rp0.Room) (b := (0 : Int)))) ?_
   rintro _ rfl
   refine Tops_step rfl (OpT_pickF rfl rfl rfl rfl rfl) ?_
   refine Tops_nil (Tk_wkS (fr' := [(29, some (vB (decide (rp0.Room < (0 : Int)))))]) (own' := []) (shr' := []) [29] [] [] rfl rfl rfl rfl ?_)
   rcases Bool.eq_false_or_eq_true (decide (rp0.Room < (0 : Int))) with hg6 | hg6
   ·replace h := br_t hg6 h
    refine Tk_condT (congrArg (fun b => some (Value.bool b)) hg6) ?_
    refine Tk_seq (Tk_region (Tops_step rfl (OpT_assign rfl rfl rfl rfl) ?_))
    refine Tops_nil (Tk_wkS (fr' := [(2, some (vI (2 : Int)))]) (own' := []) (shr' := []) [2] [] [] rfl rfl rfl rfl ?_)
    obtain rfl := Option.some.inj h
    exact Tk_retV rfl rfl (resA (vs := [vI (2 : Int)]) rfl ⟨rfl, trivial⟩) [] [] rfl rfl rfl ⟨rfl, rfl, rfl⟩
   ·replace h := br_f hg6 h
    refine Tk_condF (congrArg (fun b => some (Value.bool b)) hg6) ?_
    refine Tk_skip (Tk_seq (Tk_region (Tops_step rfl (OpT_assign rfl rfl rfl rfl) ?_)))
    refine Tops_nil (Tk_wkS (fr' := [(2, some (vI (0 : Int)))]) (own' := []) (shr' := []) [2] [] [] rfl rfl rfl rfl ?_)
    obtain rfl := Option.some.inj h
    exact Tk_retV rfl rfl (resA (vs := [vI (0 : Int)]) rfl ⟨rfl, trivial⟩) [] [] rfl rfl rfl ⟨rfl, rfl, rfl⟩

set_option maxRecDepth 100000 in
set_option maxHeartbeats 4000000 in
theorem w_ref_word21 {b : List UInt8} {arg1 : UInt64} {np2 : Int} {v_b : Value} {r : (List UInt8)} (h : ref_word21 b arg1 np2 = some r) :
  Ctr Try.prog 51 #[v_b, vU64 arg1, vI np2] [(rowS u8S v_b b)] []
   (fun rv own shr => ∃ (w1 : Value), rv = w1 ∧ own = [(rowS u8S w1 r)] ∧ shr = []) := by
 unfold ref_word21 at h
 refine Ctr.mk (args := [v_b, vU64 arg1, vI np2]) Try.func51 rfl rfl (fun R0 w0 B => ?_)
 refine Tk_seq (Tk_region (Tops_step rfl (OpT_assign rfl rfl rfl rfl) ?_))
 refine Tops_nil (Tk_wkS (fr' := [(0, some (v_b)), (1, some (vU64 arg1)), (2, some (vI np2))]) (own' := [some (rowS u8S v_b b)]) (shr' := []) [0, 1, 2] [0] [] rfl rfl rfl rfl ?_)
 refine Tk_seq (Tk_seq (Tk_region (Tops_step rfl (OpT_assign rfl rfl rfl rfl) ?_)))
 refine Tops_nil (Tk_block (Tk_loopS (σ := (List UInt8) × Int × Value) [0, 1, 2, 7] [0] [] (fun s => ⟨[(0, some (s.2.2)), (1, some (vU64 arg1)), (2, some (vI np2)), (7, some (vI s.2.1))], [some (rowS u8S s.2.2 s.1)], []⟩) (fun nf1 s => ref_word21L1 arg1 np2 nf1 s.1 s.2.1 = some r) fuel (b, (0 : Int), v_b) h rfl rfl rfl rfl rfl (fun s h => by cases h) ?_))
 rintro nf1 ⟨b1, i1, v1⟩ h
 replace h : ref_word21L1B arg1 np2 (ref_word21L1 arg1 np2 nf1) b1 i1 = some r := h
 unfold ref_word21L1B at h
 refine Tk_seq (Tk_seq (Tk_region (Tops_step rfl (OpT_move rfl rfl rfl rfl) ?_)))
 refine Tops_step rfl (OpT_move rfl rfl rfl rfl) ?_
 refine Tops_step rfl (OpT_bin rfl rfl rfl rfl rfl (bin_lss_i (a := i1) (b := np2))) ?_
 refine Tops_nil (Tk_wkS (fr' := [(0, some (v1)), (1, some (vU64 arg1)), (2, some (vI np2)), (7, some (vI i1)), (10, some (vB (decide (i1 < np2))))]) (own' := [some (rowS u8S v1 b1)]) (shr' := []) [0, 1, 2, 7, 10] [0] [] rfl rfl rfl rfl ?_)
 rcases Bool.eq_false_or_eq_true (decide (i1 < np2)) with hg1 | hg1
 ·replace h := br_t hg1 h
  refine Tk_condT (congrArg (fun b => some (Value.bool b)) hg1) ?_
  refine Tk_skip (Tk_seq (Tk_block (Tk_region (Tops_step rfl (OpT_move rfl rfl rfl rfl) ?_))))
  refine Tops_step rfl (OpT_move rfl rfl rfl rfl) ?_
  refine Tops_step rfl (OpT_move rfl rfl rfl rfl) ?_
  refine Tops_step rfl (OpT_bin rfl rfl rfl rfl rfl (bin_mul_i (a := (8 : Int)) (b := i1))) ?_
  refine Tops_step rfl (OpT_cnv rfl rfl rfl rfl (cnv_i_u64 (n := wi ((8 : Int) * i1)) Try.underlying3 Try.underlying95)) ?_
  refine Tops_step rfl (OpT_bin rfl rfl rfl rfl rfl (bin_shr_u64_u64 (a := arg1) (n := u64 (wi ((8 : Int) * i1))))) ?_
  refine Tops_step rfl (OpT_cnv rfl rfl rfl rfl (cnv_u64_u8 (n := shr64 arg1 ((u64 (wi ((8 : Int) * i1))).toNat)) Try.underlying29 Try.underlying5)) ?_
  refine Tops_ex rfl (OpT_buildSlice (S := u8S) (xs := [(shr64 arg1 ((u64 (wi ((8 : Int) * i1))).toNat)).toUInt8]) (css := [[vU8 ((shr64 arg1 ((u64 (wi ((8 : Int) * i1))).toNat)).toUInt8)]]) (cs := [vU8 ((shr64 arg1 ((u64 (wi ((8 : Int) * i1))).toNat)).toUInt8)]) (e := 5) rfl rfl rfl rfl (bldF slF35 (by decide) (by kernel_rfl)) rfl rfl rfl rfl (rel_plainD (S := u8S) (xs := [(shr64 arg1 ((u64 (wi ((8 : Int) * i1))).toNat)).toUInt8]) (css := [[vU8 ((shr64 arg1 ((u64 (wi ((8 : Int) * i1))).toNat)).toUInt8)]]) rfl rfl)) fun v2 => ?_
  obtain ⟨hc1, h⟩ := chk_e h
  refine Tops_ex rfl (OpT_appendB (S := u8S) rfl rfl rfl rfl rfl rfl slF35 (i := 0) (j := 1) rfl rfl hc1) fun v3 => ?_
  refine Tops_step rfl (OpT_assign rfl rfl rfl rfl) ?_
  refine Tops_nil (Tk_wkS (fr' := [(0, some (v3)), (1, some (vU64 arg1)), (2, some (vI np2)), (7, some (vI i1))]) (own' := [some (rowS u8S v3 (b1 ++ [(shr64 arg1 ((u64 (wi ((8 : Int) * i1))).toNat)).toUInt8]))]) (shr' := []) [0, 1, 2, 7] [0] [] rfl rfl rfl rfl ?_)
  refine Tk_blk (Tk_region (Tops_step rfl (OpT_move rfl rfl rfl rfl) ?_))
  refine Tops_step rfl (OpT_bin rfl rfl rfl rfl rfl (bin_add_i (a := i1) (b := (1 : Int)))) ?_
  refine Tops_step rfl (OpT_assign rfl rfl rfl rfl) ?_
  refine Tops_nil (Tk_wkS (fr' := [(0, some (v3)), (1, some (vU64 arg1)), (2, some (vI np2)), (7, some (vI (wi (i1 + (1 : Int)))))]) (own' := [some (rowS u8S v3 (b1 ++ [(shr64 arg1 ((u64 (wi ((8 : Int) * i1))).toNat)).toUInt8]))]) (shr' := []) [0, 1, 2, 7] [0] [] rfl rfl rfl rfl ?_)
  exact Tk_backS (b1 ++ [(shr64 arg1 ((u64 (wi ((8 : Int) * i1))).toNat)).toUInt8], wi (i1 + (1 : Int)), v3) h [0, 1, 2, 7] [0] [] rfl rfl rfl rfl rfl
 ·replace h := br_f hg1 h
  refine Tk_condF (congrArg (fun b => some (Value.bool b)) hg1) ?_
  refine Tk_exit _ rfl ?_
  refine Tk_seq (Tk_region (Tops_step rfl (OpT_move rfl rfl rfl rfl) ?_))
  refine Tops_step rfl (OpT_assign rfl rfl rfl rfl) ?_
  refine Tops_nil (Tk_wkS (fr' := [(6, some (v1))]) (own' := [some (rowS u8S v1 b1)]) (shr' := []) [6] [0] [] rfl rfl rfl rfl ?_)
  obtain rfl := Option.some.inj h
  exact Tk_retV rfl rfl (resA (vs := [v1]) rfl ⟨rfl, trivial⟩) [0] [] rfl rfl rfl ⟨v1, rfl, rfl, rfl⟩

set_option maxRecDepth 100000 in
set_option maxHeartbeats 4000000 in
theorem w_ref_Bytes21 {rp0 : Req} {vrp01 : Value} {vrp02 : Value} {r : ((List UInt8) × Int)} (h : ref_Bytes21 rp0 = some r) :
  Ctr Try.prog 22 #[.agg #[vU32 rp0.Type_, vU64 rp0.Sector, vrp01, vI rp0.Room, vrp02]] [] [Fact.sl u8S vrp01 rp0.Data, Fact.sl RangeS vrp02 rp0.Ranges]
   (fun rv own shr => ∃ (w1 : Value), rv = .tuple #[w1, vI r.2] ∧ own = [(rowS u8S w1 r.1)] ∧ shr = []) := by
 unfold ref_Bytes21 at h
 refine Ctr.mk (args := [.agg #[vU32 rp0.Type_, vU64 rp0.Sector, vrp01, vI rp0.Room, vrp02]]) Try.func22 rfl rfl (fun R0 w0 B => ?_)
 refine Tk_seq (Tk_region (Tops_ex rfl (OpT_box rfl rfl rfl rfl) fun b1 => ?_))
 refine Tops_step rfl (OpT_assign rfl rfl rfl rfl) ?_
 refine Tops_step rfl (OpT_assign rfl rfl rfl rfl) ?_
 refine Tops_nil (Tk_wkS (fr' := [(1, some (.pointer (some ⟨b1, 0, none⟩)))]) (own' := [some (cellsR b1 38 [vU32 rp0.Type_, vU64 rp0.Sector, vrp01, vI rp0.Room, vrp02])]) (shr' := [Fact.sl u8S vrp01 rp0.Data, Fact.sl RangeS vrp02 rp0.Ranges]) [1] [0] [0, 1] rfl rfl rfl rfl ?_)
 refine Tk_seq (Tk_region (Tops_step rfl (OpT_loadCA (vs := [vU32 rp0.Type_, vU64 rp0.Sector, vrp01, vI rp0.Room, vrp02]) rfl rfl rfl rfl tyF38 (i := 0) rfl rfl rfl) ?_))
 obtain ⟨check1, hx1, h⟩ := ob_e h
 refine Tops_exP rfl (OpT_call (w_ref_Check21 hx1) [] [0, 1] rfl rfl rfl rfl rfl callee35 rfl rfl rfl rfl) ?_
 rintro _ ⟨_, _, _, ⟨rfl, rfl, rfl⟩, rfl⟩
 refine Tops_step rfl (OpT_assign rfl rfl rfl rfl) ?_
 refine Tops_nil (Tk_wkS (fr' := [(1, some (.pointer (some ⟨b1, 0, none⟩))), (4, some (vI check1))]) (own' := [some (cellsR b1 38 [vU32 rp0.Type_, vU64 rp0.Sector, vrp01, vI rp0.Room, vrp02])]) (shr' := [Fact.sl u8S vrp01 rp0.Data, Fact.sl RangeS vrp02 rp0.Ranges]) [1, 4] [0] [0, 1] rfl rfl rfl rfl ?_)
 refine Tk_seq (Tk_seq (Tk_region (Tops_step rfl (OpT_move rfl rfl rfl rfl) ?_)))
 refine Tops_step rfl (OpT_bin rfl rfl rfl rfl rfl (bin_neq_i (a := check1) (b := (0 : Int)))) ?_
 refine Tops_nil (Tk_wkS (fr' := [(1, some (.pointer (some ⟨b1, 0, none⟩))), (4, some (vI check1)), (11, some (vB (check1 != (0 : Int))))]) (own' := [some (cellsR b1 38 [vU32 rp0.Type_, vU64 rp0.Sector, vrp01, vI rp0.Room, vrp02])]) (shr' := [Fact.sl u8S vrp01 rp0.Data, Fact.sl RangeS vrp02 rp0.Ranges]) [1, 4, 11] [0] [0, 1] rfl rfl rfl rfl ?_)
 rcases Bool.eq_false_or_eq_true (check1 != (0 : Int)) with hg1 | hg1
 ·replace h := br_t hg1 h
  refine Tk_condT (congrArg (fun b => some (Value.bool b)) hg1) ?_
  refine Tk_seq (Tk_region (Tops_step rfl (OpT_move rfl rfl rfl rfl) ?_))
  refine Tops_step rfl (OpT_assign rfl rfl rfl rfl) ?_
  refine Tops_step rfl (OpT_assign rfl rfl rfl rfl) ?_
  refine Tops_nil (Tk_wkS (fr' := [(2, some (.slice none 0 0)), (3, some (vI check1))]) (own' := []) (shr' := []) [2, 3] [] [] rfl rfl rfl rfl ?_)
  refine Tk_nilrow u8S ?_
  obtain rfl := Option.some.inj h
  exact Tk_retV rfl rfl (resA (vs := [.slice none 0 0, vI check1]) rfl ⟨rfl, rfl, trivial⟩) [0] [] rfl rfl rfl ⟨(.slice none 0 0), rfl, rfl, rfl⟩
 ·replace h := br_f hg1 h
  refine Tk_condF (congrArg (fun b => some (Value.bool b)) hg1) ?_
  refine Tk_skip (Tk_seq (Tk_drawT (by kernel_rfl) ?_))
  refine TA_tb [0, 1, 3, 7, 15, 0, 32, 127, 255] (by kernel_rfl) fun htb => ?_
  refine TA_wkS (fr' := [(1, some (.pointer (some ⟨b1, 0, none⟩)))]) (own' := [some (cellsR b1 38 [vU32 rp0.Type_, vU64 rp0.Sector, vrp01, vI rp0.Room, vrp02])]) (shr' := [Fact.sl u8S vrp01 rp0.Data, Fact.sl RangeS vrp02 rp0.Ranges]) [1] [0] [0, 1] rfl rfl rfl rfl ?_
  refine TA_nilrow u8S ?_
  obtain ⟨word1, hx2, h⟩ := ob_e h
  obtain ⟨word2, hx3, h⟩ := ob_e h
  refine TA_seg (lo := 0) (hi := 7) htb rfl rfl (by kernel_rfl) (fun c L a w => ∃ (v1 : Value), ∃ (v2 : Value), Sat c ⟨[(1, some (.pointer (some ⟨b1, 0, none⟩))), (13, bif L 0 then some (.pointer (some ⟨b1, 0, none⟩)) else none), (14, bif L 1 then some (vU32 rp0.Type_) else none), (15, bif L 2 then some (vU64 rp0.Type_.toUInt64) else none), (16, bif L 3 then some (v1) else none), (17, bif L 4 then some (v2) else none), (18, bif L 5 then some (.pointer (some ⟨b1, 1, none⟩)) else none), (19, bif L 6 then some (vU64 rp0.Sector) else none)], [(some (cellsR b1 38 [vU32 rp0.Type_, vU64 rp0.Sector, vrp01, vI rp0.Room, vrp02]) : Option Res), (bif L 3 then none else some (rowS u8S (.slice none 0 0) ([] : List UInt8)) : Option Res), (bif L 4 then none else bif L 3 then some (rowS u8S v1 word1) else none : Option Res), (bif L 4 then some (rowS u8S v2 word2) else none : Option Res)], [Fact.sl u8S vrp01 rp0.Data, Fact.sl RangeS vrp02 rp0.Ranges]⟩ a w) [([], [1, 2, 3, 4]), ([0], [2, 3, 4]), ([0, 1], [3, 4]), ([0, 1, 2], [4]), ([0, 1, 2, 3], []), ([], [6]), ([5], [])] rfl (by kernel_rfl) ?_ (steps_cons ?_ (steps_cons ?_ (steps_cons ?_ (steps_cons ?_ (steps_cons ?_ (steps_cons ?_ (steps_cons ?_ (steps_nil)))))))) ?_
  ·intro a w hs
   exact ⟨undef, undef, hs.startF [13, 14, 15, 16, 17, 18, 19] [0, 1, 2, 3] [0, 1] rfl rfl rfl rfl⟩
  ·intro L a w hv K Q hK
   obtain ⟨v1, v2, hs⟩ := hv
   refine wpOp_go rfl rfl hs (OpT_fieldC rfl rfl rfl rfl fldF38x0) ?_
   rintro _ rfl a' w' hs'
   exact hK a' w' ⟨v1, v2, hs'.putF (i := 1) rfl [0, 1, 2, 3] [0, 1] rfl rfl rfl rfl⟩
  ·intro L a w hv K Q hK
   obtain ⟨v1, v2, hs⟩ := hv
   refine wpOp_go rfl rfl hs (OpT_loadC rfl rfl rfl rfl tyF30 (i := 0) rfl rfl) ?_
   rintro _ rfl a' w' hs'
   exact hK a' w' ⟨v1, v2, hs'.putF (i := 2) rfl [0, 1, 2, 3] [0, 1] rfl rfl rfl rfl⟩
  ·intro L a w hv K Q hK
   obtain ⟨v1, v2, hs⟩ := hv
   refine wpOp_go rfl rfl hs (OpT_cnv rfl rfl rfl rfl (cnv_u32_u64 (n := rp0.Type_) Try.underlying30 Try.underlying29)) ?_
   rintro _ rfl a' w' hs'
   exact hK a' w' ⟨v1, v2, hs'.putF (i := 3) rfl [0, 1, 2, 3] [0, 1] rfl rfl rfl rfl⟩
  ·intro L a w hv K Q hK
   obtain ⟨v1, v2, hs⟩ := hv
   refine wpOp_go rfl rfl hs (OpT_call (w_ref_word21 hx2) [1] [] rfl rfl rfl rfl rfl callee51 rfl rfl rfl rfl) ?_
   rintro _ ⟨v1', _, _, ⟨_, rfl, rfl, rfl⟩, rfl⟩ a' w' hs'
   exact hK a' w' ⟨v1', v2, hs'.putF (i := 4) rfl [0, 1, 4, 3] [0, 1] rfl rfl rfl rfl⟩
  ·intro L a w hv K Q hK
   obtain ⟨v1, v2, hs⟩ := hv
   refine wpOp_go rfl rfl hs (OpT_call (w_ref_word21 hx3) [2] [] rfl rfl rfl rfl rfl callee51 rfl rfl rfl rfl) ?_
   rintro _ ⟨v2', _, _, ⟨_, rfl, rfl, rfl⟩, rfl⟩ a' w' hs'
   exact hK a' w' ⟨v1, v2', hs'.putF (i := 5) rfl [0, 1, 2, 4] [0, 1] rfl rfl rfl rfl⟩
  ·intro L a w hv K Q hK
   obtain ⟨v1, v2, hs⟩ := hv
   refine wpOp_go rfl rfl hs (OpT_fieldC rfl rfl rfl rfl fldF38x1) ?_
   rintro _ rfl a' w' hs'
   exact hK a' w' ⟨v1, v2, hs'.putF (i := 6) rfl [0, 1, 2, 3] [0, 1] rfl rfl rfl rfl⟩
  ·intro L a w hv K Q hK
   obtain ⟨v1, v2, hs⟩ := hv
   refine wpOp_go rfl rfl hs (OpT_loadC rfl rfl rfl rfl tyF29 (i := 0) rfl rfl) ?_
   rintro _ rfl a' w' hs'
   exact hK a' w' ⟨v1, v2, hs'.putF (i := 7) rfl [0, 1, 2, 3] [0, 1] rfl rfl rfl rfl⟩
  ·intro L a w hL hv
   rw [allTrue hL] at hv
   obtain ⟨v1, v2, hs⟩ := hv
   refine (show TA _ _ _ 7 ⟨[(1, some (.pointer (some ⟨b1, 0, none⟩))), (17, some (v2)), (19, some (vU64 rp0.Sector))], [some (cellsR b1 38 [vU32 rp0.Type_, vU64 rp0.Sector, vrp01, vI rp0.Room, vrp02]), some (rowS u8S v2 word2)], [Fact.sl u8S vrp01 rp0.Data, Fact.sl RangeS vrp02 rp0.Ranges]⟩ from ?_) a w (hs.wkS [1, 17, 19] [0, 3] [0, 1] rfl rfl rfl rfl)
   clear hs hL
   obtain ⟨word3, hx4, h⟩ := ob_e h
   refine TA_exP htb (by kernel_rfl) rfl rfl (OpT_call (w_ref_word21 hx4) [1] [] rfl rfl rfl rfl rfl callee51 rfl rfl rfl rfl) ?_
   rintro _ ⟨v3, _, _, ⟨_, rfl, rfl, rfl⟩, rfl⟩
   refine TA_step htb (by kernel_rfl) rfl rfl (OpT_assign rfl rfl rfl rfl) ?_
   refine TA_end rfl ?_
   refine Tk_wkS (fr' := [(1, some (.pointer (some ⟨b1, 0, none⟩))), (5, some (v3))]) (own' := [some (cellsR b1 38 [vU32 rp0.Type_, vU64 rp0.Sector, vrp01, vI rp0.Room, vrp02]), some (rowS u8S v3 word3)]) (shr' := [Fact.sl u8S vrp01 rp0.Data, Fact.sl RangeS vrp02 rp0.Ranges]) [1, 5] [0, 2] [0, 1] rfl rfl rfl rfl ?_
   refine Tk_seq (Tk_seq (Tk_region (Tops_step rfl (OpT_assign rfl rfl rfl rfl) ?_)))
   refine Tops_nil (Tk_block (Tk_loopS (σ := UInt32 × UInt64 × (List UInt8) × Int × (List Range) × (List UInt8) × Int × Value × Value × Value) [1, 5, 6] [0, 1] [0, 1] (fun s => ⟨[(1, some (.pointer (some ⟨b1, 0, none⟩))), (5, some (s.2.2.2.2.2.2.2.2.2)), (6, some (vI s.2.2.2.2.2.2.1))], [some (cellsR b1 38 [vU32 s.1, vU64 s.2.1, s.2.2.2.2.2.2.2.1, vI s.2.2.2.1, s.2.2.2.2.2.2.2.2.1]), some (rowS u8S s.2.2.2.2.2.2.2.2.2 s.2.2.2.2.2.1)], [Fact.sl u8S s.2.2.2.2.2.2.2.1 s.2.2.1, Fact.sl RangeS s.2.2.2.2.2.2.2.2.1 s.2.2.2.2.1]⟩) (fun nf1 s => ref_Bytes21L1 nf1 s.1 s.2.1 s.2.2.1 s.2.2.2.1 s.2.2.2.2.1 s.2.2.2.2.2.1 s.2.2.2.2.2.2.1 = some r) fuel (rp0.Type_, rp0.Sector, rp0.Data, rp0.Room, rp0.Ranges, word3, (0 : Int), vrp01, vrp02, v3) h rfl rfl rfl rfl rfl (fun s h => by cases h) ?_))
   rintro nf1 ⟨Type1, Sector1, Data1, Room1, Ranges1, b2, i1, v4, v5, v6⟩ h
   replace h : ref_Bytes21L1B (ref_Bytes21L1 nf1) Type1 Sector1 Data1 Room1 Ranges1 b2 i1 = some r := h
   unfold ref_Bytes21L1B at h
   refine Tk_seq (Tk_seq (Tk_region (Tops_step rfl (OpT_move rfl rfl rfl rfl) ?_)))
   refine Tops_step rfl (OpT_fieldC rfl rfl rfl rfl fldF38x4) ?_
   refine Tops_step rfl (OpT_loadC rfl rfl rfl rfl tyF36 (i := 0) rfl rfl) ?_
   refine Tops_step rfl (OpT_lenS rfl rfl rfl rfl Try.underlying36 (i := 1) rfl) ?_
   refine Tops_step rfl (OpT_bin rfl rfl rfl rfl rfl (bin_lss_i (a := i1) (b := len Ranges1))) ?_
   refine Tops_nil (Tk_wkS (fr' := [(1, some (.pointer (some ⟨b1, 0, none⟩))), (5, some (v6)), (6, some (vI i1)), (25, some (vB (decide (i1 < (len Ranges1)))))]) (own' := [some (cellsR b1 38 [vU32 Type1, vU64 Sector1, v4, vI Room1, v5]), some (rowS u8S v6 b2)]) (shr' := [Fact.sl u8S v4 Data1, Fact.sl RangeS v5 Ranges1]) [1, 5, 6, 25] [0, 1] [0, 1] rfl rfl rfl rfl ?_)
   rcases Bool.eq_false_or_eq_true (decide (i1 < (len Ranges1))) with hg2 | hg2
   ·replace h := br_t hg2 h
    refine Tk_condT (congrArg (fun b => some (Value.bool b)) hg2) ?_
    refine Tk_skip (Tk_seq (Tk_block (Tk_seq (Tk_region (Tops_step rfl (OpT_fieldC rfl rfl rfl rfl fldF38x4) ?_)))))
    refine Tops_step rfl (OpT_loadC rfl rfl rfl rfl tyF36 (i := 0) rfl rfl) ?_
    refine Tops_step rfl (OpT_move rfl rfl rfl rfl) ?_
    obtain ⟨r1, hx5, h⟩ := ob_e h
    refine Tops_ex rfl (OpT_idxS rfl rfl rfl rfl rfl slF36 (i := 1) rfl hx5) fun p1 => ?_
    refine Tops_step rfl (OpT_loadPA (vs := [vU64 r1.Sector, vU32 r1.Count, vU32 r1.Flags]) rfl rfl rfl rfl tyF90 (i := 2) rfl rfl) ?_
    refine Tops_ex rfl (OpT_alloc rfl rfl rfl tyZ90) fun b3 => ?_
    refine Tops_step rfl (OpT_storeC (cs' := [vU64 r1.Sector, vU32 r1.Count, vU32 r1.Flags]) rfl rfl rfl rfl tyF90 (i := 2) rfl rfl rfl (one_of rfl) rfl) ?_
    refine Tops_nil (Tk_wkS (fr' := [(1, some (.pointer (some ⟨b1, 0, none⟩))), (5, some (v6)), (6, some (vI i1)), (7, some (.pointer (some ⟨b3, 0, none⟩)))]) (own' := [some (cellsR b1 38 [vU32 Type1, vU64 Sector1, v4, vI Room1, v5]), some (rowS u8S v6 b2), some (cellsR b3 90 [vU64 r1.Sector, vU32 r1.Count, vU32 r1.Flags])]) (shr' := [Fact.sl u8S v4 Data1, Fact.sl RangeS v5 Ranges1]) [1, 5, 6, 7] [0, 1, 2] [0, 1] rfl rfl rfl rfl ?_)
    refine Tk_drawT (by kernel_rfl) ?_
    refine TA_tb [0, 0, 2, 7, 0, 16, 48, 127, 0, 256, 768, 2047, 4095] (by kernel_rfl) fun htb => ?_
    obtain ⟨word4, hx6, h⟩ := ob_e h
    obtain ⟨word5, hx7, h⟩ := ob_e h
    refine TA_seg (lo := 0) (hi := 11) htb rfl rfl (by kernel_rfl) (fun c L a w => ∃ (v7 : Value), ∃ (v8 : Value), Sat c ⟨[(1, some (.pointer (some ⟨b1, 0, none⟩))), (5, some (v6)), (6, some (vI i1)), (7, some (.pointer (some ⟨b3, 0, none⟩))), (33, bif L 0 then some (v6) else none), (34, bif L 1 then some (.pointer (some ⟨b3, 0, none⟩)) else none), (35, bif L 2 then some (vU64 r1.Sector) else none), (36, bif L 3 then some (v7) else none), (37, bif L 4 then some (.pointer (some ⟨b3, 1, none⟩)) else none), (38, bif L 5 then some (vU32 r1.Count) else none), (39, bif L 6 then some (vU64 r1.Count.toUInt64) else none), (40, bif L 7 then some (v8) else none), (41, bif L 8 then some (.pointer (some ⟨b3, 2, none⟩)) else none), (42, bif L 9 then some (vU32 r1.Flags) else none), (43, bif L 10 then some (vU64 r1.Flags.toUInt64) else none)], [(some (cellsR b1 38 [vU32 Type1, vU64 Sector1, v4, vI Room1, v5]) : Option Res), (bif L 3 then none else some (rowS u8S v6 b2) : Option Res), (some (cellsR b3 90 [vU64 r1.Sector, vU32 r1.Count, vU32 r1.Flags]) : Option Res), (bif L 7 then none else bif L 3 then some (rowS u8S v7 word4) else none : Option Res), (bif L 7 then some (rowS u8S v8 word5) else none : Option Res)], [Fact.sl u8S v4 Data1, Fact.sl RangeS v5 Ranges1]⟩ a w) [([], [3, 7]), ([], [2, 3, 7]), ([1], [3, 7]), ([0, 1, 2], [7]), ([], [5, 6, 7]), ([4], [6, 7]), ([4, 5], [7]), ([0, 1, 2, 3, 4, 5, 6], []), ([], [9, 10]), ([8], [10]), ([8, 9], [])] rfl (by kernel_rfl) ?_ (steps_cons ?_ (steps_cons ?_ (steps_cons ?_ (steps_cons ?_ (steps_cons ?_ (steps_cons ?_ (steps_cons ?_ (steps_cons ?_ (steps_cons ?_ (steps_cons ?_ (steps_cons ?_ (steps_nil)))))))))))) ?_
    ·intro a w hs
     exact ⟨undef, undef, hs.startF [33, 34, 35, 36, 37, 38, 39, 40, 41, 42, 43] [0, 1, 2, 3, 4] [0, 1] rfl rfl rfl rfl⟩
    ·intro L a w hv K Q hK
     obtain ⟨v7, v8, hs⟩ := hv
     refine wpOp_go rfl rfl hs (OpT_move rfl rfl rfl rfl) ?_
     rintro _ rfl a' w' hs'
     exact hK a' w' ⟨v7, v8, hs'.putF (i := 4) rfl [0, 1, 2, 3, 4] [0, 1] rfl rfl rfl rfl⟩
    ·intro L a w hv K Q hK
     obtain ⟨v7, v8, hs⟩ := hv
     refine wpOp_go rfl rfl hs (OpT_fieldC rfl rfl rfl rfl fldF90x0) ?_
     rintro _ rfl a' w' hs'
     exact hK a' w' ⟨v7, v8, hs'.putF (i := 5) rfl [0, 1, 2, 3, 4] [0, 1] rfl rfl rfl rfl⟩
    ·intro L a w hv K Q hK
     obtain ⟨v7, v8, hs⟩ := hv
     refine wpOp_go rfl rfl hs (OpT_loadC rfl rfl rfl rfl tyF29 (i := 2) rfl rfl) ?_
     rintro _ rfl a' w' hs'
     exact hK a' w' ⟨v7, v8, hs'.putF (i := 6) rfl [0, 1, 2, 3, 4] [0, 1] rfl rfl rfl rfl⟩
    ·intro L a w hv K Q hK
     obtain ⟨v7, v8, hs⟩ := hv
     refine wpOp_go rfl rfl hs (OpT_call (w_ref_word21 hx6) [1] [] rfl rfl rfl rfl rfl callee51 rfl rfl rfl rfl) ?_
     rintro _ ⟨v7', _, _, ⟨_, rfl, rfl, rfl⟩, rfl⟩ a' w' hs'
     exact hK a' w' ⟨v7', v8, hs'.putF (i := 7) rfl [0, 1, 2, 5, 4] [0, 1] rfl rfl rfl rfl⟩
    ·intro L a w hv K Q hK
     obtain ⟨v7, v8, hs⟩ := hv
     refine wpOp_go rfl rfl hs (OpT_fieldC rfl rfl rfl rfl fldF90x1) ?_
     rintro _ rfl a' w' hs'
     exact hK a' w' ⟨v7, v8, hs'.putF (i := 8) rfl [0, 1, 2, 3, 4] [0, 1] rfl rfl rfl rfl⟩
    ·intro L a w hv K Q hK
     obtain ⟨v7, v8, hs⟩ := hv
     refine wpOp_go rfl rfl hs (OpT_loadC rfl rfl rfl rfl tyF30 (i := 2) rfl rfl) ?_
     rintro _ rfl a' w' hs'
     exact hK a' w' ⟨v7, v8, hs'.putF (i := 9) rfl [0, 1, 2, 3, 4] [0, 1] rfl rfl rfl rfl⟩
    ·intro L a w hv K Q hK
     obtain ⟨v7, v8, hs⟩ := hv
     refine wpOp_go rfl rfl hs (OpT_cnv rfl rfl rfl rfl (cnv_u32_u64 (n := r1.Count) Try.underlying30 Try.underlying29)) ?_
     rintro _ rfl a' w' hs'
     exact hK a' w' ⟨v7, v8, hs'.putF (i := 10) rfl [0, 1, 2, 3, 4] [0, 1] rfl rfl rfl rfl⟩
    ·intro L a w hv K Q hK
     obtain ⟨v7, v8, hs⟩ := hv
     refine wpOp_go rfl rfl hs (OpT_call (w_ref_word21 hx7) [3] [] rfl rfl rfl rfl rfl callee51 rfl rfl rfl rfl) ?_
     rintro _ ⟨v8', _, _, ⟨_, rfl, rfl, rfl⟩, rfl⟩ a' w' hs'
     exact hK a' w' ⟨v7, v8', hs'.putF (i := 11) rfl [0, 1, 2, 3, 5] [0, 1] rfl rfl rfl rfl⟩
    ·intro L a w hv K Q hK
     obtain ⟨v7, v8, hs⟩ := hv
     refine wpOp_go rfl rfl hs (OpT_fieldC rfl rfl rfl rfl fldF90x2) ?_
     rintro _ rfl a' w' hs'
     exact hK a' w' ⟨v7, v8, hs'.putF (i := 12) rfl [0, 1, 2, 3, 4] [0, 1] rfl rfl rfl rfl⟩
    ·intro L a w hv K Q hK
     obtain ⟨v7, v8, hs⟩ := hv
     refine wpOp_go rfl rfl hs (OpT_loadC rfl rfl rfl rfl tyF30 (i := 2) rfl rfl) ?_
     rintro _ rfl a' w' hs'
     exact hK a' w' ⟨v7, v8, hs'.putF (i := 13) rfl [0, 1, 2, 3, 4] [0, 1] rfl rfl rfl rfl⟩
    ·intro L a w hv K Q hK
     obtain ⟨v7, v8, hs⟩ := hv
     refine wpOp_go rfl rfl hs (OpT_cnv rfl rfl rfl rfl (cnv_u32_u64 (n := r1.Flags) Try.underlying30 Try.underlying29)) ?_
     rintro _ rfl a' w' hs'
     exact hK a' w' ⟨v7, v8, hs'.putF (i := 14) rfl [0, 1, 2, 3, 4] [0, 1] rfl rfl rfl rfl⟩
    ·intro L a w hL hv
     rw [allTrue hL] at hv
     obtain ⟨v7, v8, hs⟩ := hv
     refine (show TA _ _ _ 11 ⟨[(1, some (.pointer (some ⟨b1, 0, none⟩))), (6, some (vI i1)), (40, some (v8)), (43, some (vU64 r1.Flags.toUInt64))], [some (cellsR b1 38 [vU32 Type1, vU64 Sector1, v4, vI Room1, v5]), some (rowS u8S v8 word5)], [Fact.sl u8S v4 Data1, Fact.sl RangeS v5 Ranges1]⟩ from ?_) a w (hs.wkS [1, 6, 40, 43] [0, 4] [0, 1] rfl rfl rfl rfl)
     clear hs hL
     obtain ⟨word6, hx8, h⟩ := ob_e h
     refine TA_exP htb (by kernel_rfl) rfl rfl (OpT_call (w_ref_word21 hx8) [1] [] rfl rfl rfl rfl rfl callee51 rfl rfl rfl rfl) ?_
     rintro _ ⟨v9, _, _, ⟨_, rfl, rfl, rfl⟩, rfl⟩
     refine TA_step htb (by kernel_rfl) rfl rfl (OpT_assign rfl rfl rfl rfl) ?_
     refine TA_end rfl ?_
     refine Tk_wkS (fr' := [(1, some (.pointer (some ⟨b1, 0, none⟩))), (6, some (vI i1)), (5, some (v9))]) (own' := [some (cellsR b1 38 [vU32 Type1, vU64 Sector1, v4, vI Room1, v5]), some (rowS u8S v9 word6)]) (shr' := [Fact.sl u8S v4 Data1, Fact.sl RangeS v5 Ranges1]) [1, 6, 5] [0, 2] [0, 1] rfl rfl rfl rfl ?_
     refine Tk_blk (Tk_region (Tops_step rfl (OpT_move rfl rfl rfl rfl) ?_))
     refine Tops_step rfl (OpT_bin rfl rfl rfl rfl rfl (bin_add_i (a := i1) (b := (1 : Int)))) ?_
     refine Tops_step rfl (OpT_assign rfl rfl rfl rfl) ?_
     refine Tops_nil (Tk_wkS (fr' := [(1, some (.pointer (some ⟨b1, 0, none⟩))), (6, some (vI (wi (i1 + (1 : Int))))), (5, some (v9))]) (own' := [some (cellsR b1 38 [vU32 Type1, vU64 Sector1, v4, vI Room1, v5]), some (rowS u8S v9 word6)]) (shr' := [Fact.sl u8S v4 Data1, Fact.sl RangeS v5 Ranges1]) [1, 6, 5] [0, 1] [0, 1] rfl rfl rfl rfl ?_)
     exact Tk_backS (Type1, Sector1, Data1, Room1, Ranges1, word6, wi (i1 + (1 : Int)), v4, v5, v9) h [1, 5, 6] [0, 1] [0, 1] rfl rfl rfl rfl rfl
   ·replace h := br_f hg2 h
    refine Tk_condF (congrArg (fun b => some (Value.bool b)) hg2) ?_
    refine Tk_exit _ rfl ?_
    refine Tk_seq (Tk_region (Tops_step rfl (OpT_move rfl rfl rfl rfl) ?_))
    refine Tops_step rfl (OpT_fieldC rfl rfl rfl rfl fldF38x2) ?_
    refine Tops_step rfl (OpT_loadC rfl rfl rfl rfl tyF35 (i := 0) rfl rfl) ?_
    obtain ⟨hc1, h⟩ := chk_e h
    refine Tops_ex rfl (OpT_append rfl rfl rfl rfl rfl slF35 (i := 1) (j := 0) rfl rfl hc1) fun v10 => ?_
    refine Tops_step rfl (OpT_assign rfl rfl rfl rfl) ?_
    refine Tops_step rfl (OpT_assign rfl rfl rfl rfl) ?_
    refine Tops_nil (Tk_wkS (fr' := [(2, some (v10)), (3, some (vI (0 : Int)))]) (own' := [some (rowS u8S v10 (b2 ++ Data1))]) (shr' := []) [2, 3] [1] [] rfl rfl rfl rfl ?_)
    obtain rfl := Option.some.inj h
    exact Tk_retV rfl rfl (resA (vs := [v10, vI (0 : Int)]) rfl ⟨rfl, rfl, trivial⟩) [0] [] rfl rfl rfl ⟨v10, rfl, rfl, rfl⟩

set_option maxRecDepth 100000 in
set_option maxHeartbeats 4000000 in
theorem w_slices_Clone_bytebyte {sp0 : List UInt8} {vsp01 : Value} {r : (List UInt8)} (h : slices_Clone_bytebyte sp0 = some r) :
  Ctr Try.prog 87 #[vsp01] [] [Fact.sl u8S vsp01 sp0]
   (fun rv own shr => ∃ (w1 : Value), rv = w1 ∧ own = [(rowS u8S w1 r)] ∧ shr = []) := by
 unfold slices_Clone_bytebyte at h
 refine Ctr.mk (args := [vsp01]) Try.func87 rfl rfl (fun R0 w0 B => ?_)
 refine Tk_seq (Tk_region (Tops_step rfl (OpT_assign rfl rfl rfl rfl) ?_))
 refine Tops_nil (Tk_wkS (fr' := [(0, some (vsp01))]) (own' := []) (shr' := [Fact.sl u8S vsp01 sp0]) [0] [] [0] rfl rfl rfl rfl ?_)
 refine Tk_seq (Tk_seq (Tk_region (Tops_step rfl (OpT_move rfl rfl rfl rfl) ?_)))
 refine Tops_exP rfl (OpT_eqNil rfl rfl rfl (.inl rfl) rfl rfl Try.underlying35 (i := 0) rfl) ?_
 rintro _ ⟨q1, hq1, rfl⟩
 refine Tops_nil (Tk_wkS (fr' := [(0, some (vsp01)), (4, some (vB q1))]) (own' := []) (shr' := [Fact.sl u8S vsp01 sp0]) [0, 4] [] [0] rfl rfl rfl rfl ?_)
 rcases Bool.eq_false_or_eq_true q1 with hg1 | hg1
 ·obtain rfl := hq1 hg1
  replace h : some ([] : List UInt8) = some r := h
  refine Tk_condT (congrArg (fun b => some (Value.bool b)) hg1) ?_
  refine Tk_seq (Tk_region (Tops_step rfl (OpT_assign rfl rfl rfl rfl) ?_))
  refine Tops_nil (Tk_wkS (fr' := [(2, some (.slice none 0 0))]) (own' := []) (shr' := []) [2] [] [] rfl rfl rfl rfl ?_)
  refine Tk_nilrow u8S ?_
  obtain rfl := Option.some.inj h
  exact Tk_retV rfl rfl (resA (vs := [.slice none 0 0]) rfl ⟨rfl, trivial⟩) [0] [] rfl rfl rfl ⟨(.slice none 0 0), rfl, rfl, rfl⟩
 ·refine Tk_condF (congrArg (fun b => some (Value.bool b)) hg1) ?_
  refine Tk_skip (Tk_seq (Tk_region (Tops_ex rfl (OpT_buildSlice (S := u8S) (xs := ([] : List UInt8)) (css := []) (cs := []) (e := 5) rfl rfl rfl rfl (bldF slF35 (by decide) (by kernel_rfl)) rfl rfl rfl rfl (rel_plainD (S := u8S) (xs := ([] : List UInt8)) (css := []) rfl rfl)) fun v1 => ?_)))
  refine Tops_step rfl (OpT_move rfl rfl rfl rfl) ?_
  obtain ⟨hc1, h⟩ := chk_e h
  refine Tops_ex rfl (OpT_append rfl rfl rfl rfl rfl slF35 (i := 0) (j := 0) rfl rfl hc1) fun v2 => ?_
  refine Tops_step rfl (OpT_assign rfl rfl rfl rfl) ?_
  refine Tops_nil (Tk_wkS (fr' := [(2, some (v2))]) (own' := [some (rowS u8S v2 sp0)]) (shr' := []) [2] [0] [] rfl rfl rfl rfl ?_)
  obtain rfl := Option.some.inj h
  exact Tk_retV rfl rfl (resA (vs := [v2]) rfl ⟨rfl, trivial⟩) [0] [] rfl rfl rfl ⟨v2, rfl, rfl, rfl⟩

set_option maxRecDepth 100000 in
set_option maxHeartbeats 4000000 in
theorem w_gmem_Mem_Read {m : gmem_Mem} {atp1 : UInt64} {np2 : Int} {b_m : Nat} {vm1 : Value} {vm2 : Value} {vsm1 : List Value} {r : ((List UInt8) × Int)} (h : gmem_Mem_Read m atp1 np2 = some r) :
  Ctr Try.prog 77 #[.pointer (some ⟨b_m, 0, none⟩), vU64 atp1, vI np2] [(cellsR b_m 83 [vm1, vm2]), (rowsX u8S true vm2 vsm1 m.b none)] [Fact.sl RegionS vm1 m.l]
   (fun rv own shr => ∃ (w1 : Value), rv = .tuple #[w1, vI r.2] ∧ own = [(cellsR b_m 83 [vm1, vm2]), (rowsX u8S true vm2 vsm1 m.b none), (rowS u8S w1 r.1)] ∧ shr = []) := by
 unfold gmem_Mem_Read at h
 refine Ctr.mk (args := [.pointer (some ⟨b_m, 0, none⟩), vU64 atp1, vI np2]) Try.func77 rfl rfl (fun R0 w0 B => ?_)
 refine Tk_seq (Tk_region (Tops_step rfl (OpT_assign rfl rfl rfl rfl) ?_))
 refine Tops_step rfl (OpT_assign rfl rfl rfl rfl) ?_
 refine Tops_nil (Tk_wkS (fr' := [(0, some (.pointer (some ⟨b_m, 0, none⟩))), (1, some (vU64 atp1)), (2, some (vI np2))]) (own' := [some (cellsR b_m 83 [vm1, vm2]), some (rowsX u8S true vm2 vsm1 m.b none)]) (shr' := [Fact.sl RegionS vm1 m.l]) [0, 1, 2] [0, 1] [0] rfl rfl rfl rfl ?_)
 refine Tk_seq (Tk_seq (Tk_region (Tops_step rfl (OpT_move rfl rfl rfl rfl) ?_)))
 obtain ⟨made1, hx1, h⟩ := ob_e h
 refine Tops_exP rfl (OpT_callP [2, 3] (w_gmem_Mem_made hx1) [0, 1] [0] rfl rfl rfl rfl rfl callee45 rfl rfl rfl rfl rfl) ?_
 rintro _ ⟨_, _, _, ⟨rfl, rfl, rfl⟩, rfl⟩
 refine Tops_step rfl (OpT_not rfl rfl rfl rfl) ?_
 refine Tops_nil (Tk_wkS (fr' := [(0, some (.pointer (some ⟨b_m, 0, none⟩))), (1, some (vU64 atp1)), (2, some (vI np2)), (11, some (vB (!made1)))]) (own' := [some (cellsR b_m 83 [vm1, vm2]), some (rowsX u8S true vm2 vsm1 m.b none)]) (shr' := [Fact.sl RegionS vm1 m.l]) [0, 1, 2, 11] [0, 1] [0] rfl rfl rfl rfl ?_)
 refine Tk_condF (congrArg (fun b => some (Value.bool b)) (congrArg (!·) (Option.some.inj (show some true = some made1 from hx1)).symm)) ?_
 refine Tk_skip (Tk_seq (Tk_block (Tk_seq (Tk_region (Tops_step rfl (OpT_move rfl rfl rfl rfl) ?_)))))
 refine Tops_step rfl (OpT_bin rfl rfl rfl rfl rfl (bin_lss_i (a := np2) (b := (0 : Int)))) ?_
 refine Tops_step rfl (OpT_assign rfl rfl rfl rfl) ?_
 refine Tops_nil (Tk_wkS (fr' := [(0, some (.pointer (some ⟨b_m, 0, none⟩))), (1, some (vU64 atp1)), (2, some (vI np2)), (12, some (vB (decide (np2 < (0 : Int)))))]) (own' := [some (cellsR b_m 83 [vm1, vm2]), some (rowsX u8S true vm2 vsm1 m.b none)]) (shr' := [Fact.sl RegionS vm1 m.l]) [0, 1, 2, 12] [0, 1] [0] rfl rfl rfl rfl ?_)
 rcases Bool.eq_false_or_eq_true (decide (np2 < (0 : Int))) with hg1 | hg1
 ·replace h := br_t hg1 h
  refine Tk_condT (congrArg (fun b => some (Value.bool b)) hg1) ?_
  refine Tk_seq (Tk_region (Tops_step rfl (OpT_assign rfl rfl rfl rfl) ?_))
  refine Tops_step rfl (OpT_assign rfl rfl rfl rfl) ?_
  refine Tops_nil (Tk_wkS (fr' := [(6, some (.slice none 0 0)), (7, some (vI (2 : Int)))]) (own' := [some (cellsR b_m 83 [vm1, vm2]), some (rowsX u8S true vm2 vsm1 m.b none)]) (shr' := [Fact.sl RegionS vm1 m.l]) [6, 7] [0, 1] [0] rfl rfl rfl rfl ?_)
  refine Tk_nilrow u8S ?_
  obtain rfl := Option.some.inj h
  exact Tk_retV rfl rfl (resA (vs := [.slice none 0 0, vI (2 : Int)]) rfl ⟨rfl, rfl, trivial⟩) [0, 1, 2] [] rfl rfl rfl ⟨(.slice none 0 0), rfl, rfl, rfl⟩
 ·replace h := br_f hg1 h
  refine Tk_condF (congrArg (fun b => some (Value.bool b)) hg1) ?_
  refine Tk_seq (Tk_region (Tops_step rfl (OpT_move rfl rfl rfl rfl) ?_))
  refine Tops_step rfl (OpT_bin rfl rfl rfl rfl rfl (bin_eql_i (a := np2) (b := (0 : Int)))) ?_
  refine Tops_step rfl (OpT_assign rfl rfl rfl rfl) ?_
  refine Tops_nil (Tk_wkS (fr' := [(0, some (.pointer (some ⟨b_m, 0, none⟩))), (1, some (vU64 atp1)), (2, some (vI np2)), (15, some (vB (np2 == (0 : Int))))]) (own' := [some (cellsR b_m 83 [vm1, vm2]), some (rowsX u8S true vm2 vsm1 m.b none)]) (shr' := [Fact.sl RegionS vm1 m.l]) [0, 1, 2, 15] [0, 1] [0] rfl rfl rfl rfl ?_)
  rcases Bool.eq_false_or_eq_true (np2 == (0 : Int)) with hg2 | hg2
  ·replace h := br_t hg2 h
   refine Tk_condT (congrArg (fun b => some (Value.bool b)) hg2) ?_
   refine Tk_seq (Tk_region (Tops_step rfl (OpT_assign rfl rfl rfl rfl) ?_))
   refine Tops_step rfl (OpT_assign rfl rfl rfl rfl) ?_
   refine Tops_nil (Tk_wkS (fr' := [(6, some (.slice none 0 0)), (7, some (vI (0 : Int)))]) (own' := [some (cellsR b_m 83 [vm1, vm2]), some (rowsX u8S true vm2 vsm1 m.b none)]) (shr' := [Fact.sl RegionS vm1 m.l]) [6, 7] [0, 1] [0] rfl rfl rfl rfl ?_)
   refine Tk_nilrow u8S ?_
   obtain rfl := Option.some.inj h
   exact Tk_retV rfl rfl (resA (vs := [.slice none 0 0, vI (0 : Int)]) rfl ⟨rfl, rfl, trivial⟩) [0, 1, 2] [] rfl rfl rfl ⟨(.slice none 0 0), rfl, rfl, rfl⟩
  ·replace h := br_f hg2 h
   refine Tk_condF (congrArg (fun b => some (Value.bool b)) hg2) ?_
   refine Tk_skip (Tk_blk (Tk_seq (Tk_region (Tops_step rfl (OpT_move rfl rfl rfl rfl) ?_))))
   refine Tops_step rfl (OpT_move rfl rfl rfl rfl) ?_
   refine Tops_step rfl (OpT_move rfl rfl rfl rfl) ?_
   refine Tops_step rfl (OpT_cnv rfl rfl rfl rfl (cnv_i_u64 (n := np2) Try.underlying3 Try.underlying29)) ?_
   obtain ⟨bytes1, hx2, h⟩ := ob_e h
   refine Tops_exP rfl (OpT_callP [2, 3] (w_gmem_Mem_bytes hx2) [0, 1] [0] rfl rfl rfl rfl rfl callee46 rfl rfl rfl rfl rfl) ?_
   rintro _ ⟨_, _, _, ⟨rfl, rfl, rfl⟩, rfl⟩
   refine Tops_step rfl (OpT_assign rfl rfl rfl rfl) ?_
   refine Tops_nil (Tk_wkS (fr' := [(8, some (winV 1 vsm1 bytes1))]) (own' := [some (cellsR b_m 83 [vm1, vm2]), some (rowsX u8S true vm2 vsm1 m.b none)]) (shr' := [Fact.sl RegionS vm1 m.l]) [8] [0, 1] [0] rfl rfl rfl rfl ?_)
   rcases onO_cases h with ⟨ho1, h⟩ | ⟨w1, ho1, h⟩
   ·refine Tk_eqv (x := winV 1 vsm1 bytes1) (y := .slice none 0 0) (by rw [ho1]; rfl) (fun z => ⟨[(8, some (z))], [some (cellsR b_m 83 [vm1, vm2]), some (rowsX u8S true vm2 vsm1 m.b none)], [Fact.sl RegionS vm1 m.l]⟩) ?_
    refine Tk_seq (Tk_seq (Tk_region (Tops_step rfl (OpT_move rfl rfl rfl rfl) ?_)))
    refine Tops_step rfl (OpT_eqNilN rfl rfl rfl (.inl rfl) rfl rfl Try.underlying35) ?_
    refine Tops_nil (Tk_wkS (fr' := [(8, some (.slice none 0 0)), (24, some (vB true))]) (own' := [some (cellsR b_m 83 [vm1, vm2]), some (rowsX u8S true vm2 vsm1 m.b none)]) (shr' := [Fact.sl RegionS vm1 m.l]) [8, 24] [0, 1] [0] rfl rfl rfl rfl ?_)
    refine Tk_condT rfl ?_
    refine Tk_seq (Tk_region (Tops_step rfl (OpT_assign rfl rfl rfl rfl) ?_))
    refine Tops_step rfl (OpT_assign rfl rfl rfl rfl) ?_
    refine Tops_nil (Tk_wkS (fr' := [(6, some (.slice none 0 0)), (7, some (vI (5 : Int)))]) (own' := [some (cellsR b_m 83 [vm1, vm2]), some (rowsX u8S true vm2 vsm1 m.b none)]) (shr' := [Fact.sl RegionS vm1 m.l]) [6, 7] [0, 1] [0] rfl rfl rfl rfl ?_)
    refine Tk_nilrow u8S ?_
    obtain rfl := Option.some.inj h
    exact Tk_retV rfl rfl (resA (vs := [.slice none 0 0, vI (5 : Int)]) rfl ⟨rfl, rfl, trivial⟩) [0, 1, 2] [] rfl rfl rfl ⟨(.slice none 0 0), rfl, rfl, rfl⟩
   ·refine Tk_eqv (x := winV 1 vsm1 bytes1) (y := subV (vsAt vsm1 (Int.toNat w1.1)) 1 (Int.toNat w1.2.1) (Int.toNat w1.2.2)) (by rw [ho1]; rfl) (fun z => ⟨[(8, some (z))], [some (cellsR b_m 83 [vm1, vm2]), some (rowsX u8S true vm2 vsm1 m.b none)], [Fact.sl RegionS vm1 m.l]⟩) ?_
    obtain ⟨row1, hx3, h⟩ := ob_e h
    refine Tk_vs (vs_focus (i := 1) (j := w1.1) rfl hx3) ?_
    obtain ⟨hc1, h⟩ := chk_e h
    refine Tk_seq (Tk_seq (Tk_region (Tops_step rfl (OpT_move rfl rfl rfl rfl) ?_)))
    obtain ⟨hc2, h⟩ := chk_e h
    refine Tops_step rfl (OpT_eqSub (S := u8S) (l := w1.2.1) (m := w1.2.2) rfl rfl rfl (.inl rfl) rfl rfl Try.underlying35 (i := 2) rfl hc1 hc2) ?_
    refine Tops_nil (Tk_wkS (fr' := [(8, some (subV (vsAt vsm1 (Int.toNat w1.1)) 1 (Int.toNat w1.2.1) (Int.toNat w1.2.2))), (24, some (vB false))]) (own' := [some (cellsR b_m 83 [vm1, vm2]), some (rowsX u8S true vm2 vsm1 m.b (some (Int.toNat w1.1, vsAt vsm1 (Int.toNat w1.1)))), some (rowS u8S (vsAt vsm1 (Int.toNat w1.1)) row1)]) (shr' := [Fact.sl RegionS vm1 m.l]) [8, 24] [0, 1, 2] [0] rfl rfl rfl rfl ?_)
    refine Tk_condF rfl ?_
    refine Tk_skip (Tk_seq (Tk_region (Tops_step rfl (OpT_move rfl rfl rfl rfl) ?_)))
    obtain ⟨cloneb1, hx4, h⟩ := ob_e h
    refine Tops_exP rfl (OpT_callB [2] [0, 1, 2, 3] (w_slices_Clone_bytebyte hx4) [] rfl rfl rfl rfl rfl callee87 rfl rfl rfl rfl rfl rfl (bor_cons (bor_sub (S := u8S) (l := w1.2.1) (m := w1.2.2) 2 rfl rfl hc1) bor_nil) (by rintro _ _ _ ⟨_, rfl, rfl, rfl⟩; exact ⟨rfl, (ri_cons (ri_row (S := u8S) rfl _ _) ri_nil)⟩)) ?_
    rintro _ ⟨v1, _, _, ⟨_, rfl, rfl, rfl⟩, rfl⟩
    refine Tops_step rfl (OpT_assign rfl rfl rfl rfl) ?_
    refine Tops_step rfl (OpT_assign rfl rfl rfl rfl) ?_
    refine Tops_nil (Tk_wkS (fr' := [(6, some (v1)), (7, some (vI (0 : Int)))]) (own' := [some (cellsR b_m 83 [vm1, vm2]), some (rowsX u8S true vm2 vsm1 m.b (some (Int.toNat w1.1, vsAt vsm1 (Int.toNat w1.1)))), some (rowS u8S (vsAt vsm1 (Int.toNat w1.1)) row1), some (rowS u8S v1 cloneb1)]) (shr' := [Fact.sl RegionS vm1 m.l]) [6, 7] [0, 1, 2, 3] [0] rfl rfl rfl rfl ?_)
    refine Tk_vs (vs_unfocus0 (i := 1) (q := 2) rfl rfl rfl hx3) ?_
    obtain rfl := Option.some.inj h
    exact Tk_retV rfl rfl (resA (vs := [v1, vI (0 : Int)]) rfl ⟨rfl, rfl, trivial⟩) [0, 1, 3] [] rfl rfl rfl ⟨v1, rfl, rfl, rfl⟩

set_option maxRecDepth 100000 in
set_option maxHeartbeats 4000000 in
theorem w_seg_In {m : gmem_Mem} {l : List Seg} {b_m : Nat} {vm1 : Value} {vm2 : Value} {vsm1 : List Value} {vl1 : Value} {r : Int} (h : seg_In m l = some r) :
  Ctr Try.prog 52 #[.pointer (some ⟨b_m, 0, none⟩), vl1] [(cellsR b_m 83 [vm1, vm2]), (rowsX u8S true vm2 vsm1 m.b none)] [Fact.sl RegionS vm1 m.l, Fact.sl SegS vl1 l]
   (fun rv own shr => rv = vI r ∧ own = [(cellsR b_m 83 [vm1, vm2]), (rowsX u8S true vm2 vsm1 m.b none)] ∧ shr = []) := by
 unfold seg_In at h
 refine Ctr.mk (args := [.pointer (some ⟨b_m, 0, none⟩), vl1]) Try.func52 rfl rfl (fun R0 w0 B => ?_)
 refine Tk_seq (Tk_region (Tops_step rfl (OpT_assign rfl rfl rfl rfl) ?_))
 refine Tops_nil (Tk_wkS (fr' := [(0, some (.pointer (some ⟨b_m, 0, none⟩))), (1, some (vl1))]) (own' := [some (cellsR b_m 83 [vm1, vm2]), some (rowsX u8S true vm2 vsm1 m.b none)]) (shr' := [Fact.sl RegionS vm1 m.l, Fact.sl SegS vl1 l]) [0, 1] [0, 1] [0, 1] rfl rfl rfl rfl ?_)
 refine Tk_seq (Tk_seq (Tk_region (Tops_step rfl (OpT_move rfl rfl rfl rfl) ?_)))
 obtain ⟨read1, hx1, h⟩ := ob_e h
 refine Tops_exP rfl (OpT_callP [2, 3, 4] (w_gmem_Mem_Read hx1) [0, 1] [0] rfl rfl rfl rfl rfl callee77 rfl rfl rfl rfl rfl) ?_
 rintro _ ⟨_, _, _, ⟨v1, rfl, rfl, rfl⟩, rfl⟩
 refine Tops_step rfl (OpT_move rfl rfl rfl rfl) ?_
 refine Tops_step rfl (OpT_extract rfl rfl rfl rfl rfl) ?_
 refine Tops_step rfl (OpT_extract rfl rfl rfl rfl rfl) ?_
 refine Tops_step rfl (OpT_assign rfl rfl rfl rfl) ?_
 refine Tops_step rfl (OpT_assign rfl rfl rfl rfl) ?_
 refine Tops_nil (Tk_wkS (fr' := [(0, some (.pointer (some ⟨b_m, 0, none⟩))), (1, some (vl1)), (6, some (vI read1.2))]) (own' := [some (cellsR b_m 83 [vm1, vm2]), some (rowsX u8S true vm2 vsm1 m.b none)]) (shr' := [Fact.sl RegionS vm1 m.l, Fact.sl SegS vl1 l]) [0, 1, 6] [0, 1] [0, 1] rfl rfl rfl rfl ?_)
 refine Tk_seq (Tk_region (Tops_step rfl (OpT_move rfl rfl rfl rfl) ?_))
 refine Tops_step rfl (OpT_bin rfl rfl rfl rfl rfl (bin_neq_i (a := read1.2) (b := (0 : Int)))) ?_
 refine Tops_nil (Tk_wkS (fr' := [(0, some (.pointer (some ⟨b_m, 0, none⟩))), (1, some (vl1)), (6, some (vI read1.2)), (16, some (vB (read1.2 != (0 : Int))))]) (own' := [some (cellsR b_m 83 [vm1, vm2]), some (rowsX u8S true vm2 vsm1 m.b none)]) (shr' := [Fact.sl RegionS vm1 m.l, Fact.sl SegS vl1 l]) [0, 1, 6, 16] [0, 1] [0, 1] rfl rfl rfl rfl ?_)
 rcases Bool.eq_false_or_eq_true (read1.2 != (0 : Int)) with hg1 | hg1
 ·replace h := br_t hg1 h
  refine Tk_condT (congrArg (fun b => some (Value.bool b)) hg1) ?_
  refine Tk_seq (Tk_region (Tops_step rfl (OpT_move rfl rfl rfl rfl) ?_))
  refine Tops_step rfl (OpT_assign rfl rfl rfl rfl) ?_
  refine Tops_nil (Tk_wkS (fr' := [(4, some (vI read1.2))]) (own' := [some (cellsR b_m 83 [vm1, vm2]), some (rowsX u8S true vm2 vsm1 m.b none)]) (shr' := [Fact.sl RegionS vm1 m.l]) [4] [0, 1] [0] rfl rfl rfl rfl ?_)
  obtain rfl := Option.some.inj h
  exact Tk_retV rfl rfl (resA (vs := [vI read1.2]) rfl ⟨rfl, trivial⟩) [0, 1] [] rfl rfl rfl ⟨rfl, rfl, rfl⟩
 ·replace h := br_f hg1 h
  refine Tk_condF (congrArg (fun b => some (Value.bool b)) hg1) ?_
  refine Tk_skip (Tk_seq (Tk_seq (Tk_region (Tops_step rfl (OpT_move rfl rfl rfl rfl) ?_))))
  obtain ⟨check1, hx2, h⟩ := ob_e h
  refine Tops_exP rfl (OpT_call (w_seg_Check hx2) [] [1] rfl rfl rfl rfl rfl callee39 rfl rfl rfl rfl) ?_
  rintro _ ⟨_, _, _, ⟨rfl, rfl, rfl⟩, rfl⟩
  refine Tops_step rfl (OpT_assign rfl rfl rfl rfl) ?_
  refine Tops_nil (Tk_wkS (fr' := [(0, some (.pointer (some ⟨b_m, 0, none⟩))), (1, some (vl1)), (7, some (vI check1))]) (own' := [some (cellsR b_m 83 [vm1, vm2]), some (rowsX u8S true vm2 vsm1 m.b none)]) (shr' := [Fact.sl RegionS vm1 m.l, Fact.sl SegS vl1 l]) [0, 1, 7] [0, 1] [0, 1] rfl rfl rfl rfl ?_)
  refine Tk_seq (Tk_region (Tops_step rfl (OpT_move rfl rfl rfl rfl) ?_))
  refine Tops_step rfl (OpT_bin rfl rfl rfl rfl rfl (bin_neq_i (a := check1) (b := (0 : Int)))) ?_
  refine Tops_nil (Tk_wkS (fr' := [(0, some (.pointer (some ⟨b_m, 0, none⟩))), (1, some (vl1)), (7, some (vI check1)), (21, some (vB (check1 != (0 : Int))))]) (own' := [some (cellsR b_m 83 [vm1, vm2]), some (rowsX u8S true vm2 vsm1 m.b none)]) (shr' := [Fact.sl RegionS vm1 m.l, Fact.sl SegS vl1 l]) [0, 1, 7, 21] [0, 1] [0, 1] rfl rfl rfl rfl ?_)
  rcases Bool.eq_false_or_eq_true (check1 != (0 : Int)) with hg2 | hg2
  ·replace h := br_t hg2 h
   refine Tk_condT (congrArg (fun b => some (Value.bool b)) hg2) ?_
   refine Tk_seq (Tk_region (Tops_step rfl (OpT_move rfl rfl rfl rfl) ?_))
   refine Tops_step rfl (OpT_assign rfl rfl rfl rfl) ?_
   refine Tops_nil (Tk_wkS (fr' := [(4, some (vI check1))]) (own' := [some (cellsR b_m 83 [vm1, vm2]), some (rowsX u8S true vm2 vsm1 m.b none)]) (shr' := [Fact.sl RegionS vm1 m.l]) [4] [0, 1] [0] rfl rfl rfl rfl ?_)
   obtain rfl := Option.some.inj h
   exact Tk_retV rfl rfl (resA (vs := [vI check1]) rfl ⟨rfl, trivial⟩) [0, 1] [] rfl rfl rfl ⟨rfl, rfl, rfl⟩
  ·replace h := br_f hg2 h
   refine Tk_condF (congrArg (fun b => some (Value.bool b)) hg2) ?_
   refine Tk_skip (Tk_seq (Tk_seq (Tk_region (Tops_step rfl (OpT_move rfl rfl rfl rfl) ?_))))
   refine Tops_step rfl (OpT_lenS rfl rfl rfl rfl Try.underlying22 (i := 1) rfl) ?_
   refine Tops_step rfl (OpT_move rfl rfl rfl rfl) ?_
   refine Tops_nil (Tk_wkS (fr' := [(0, some (.pointer (some ⟨b_m, 0, none⟩))), (23, some (vl1)), (24, some (vI (len l))), (25, some (vI (0 : Int)))]) (own' := [some (cellsR b_m 83 [vm1, vm2]), some (rowsX u8S true vm2 vsm1 m.b none)]) (shr' := [Fact.sl RegionS vm1 m.l, Fact.sl SegS vl1 l]) [0, 23, 24, 25] [0, 1] [0, 1] rfl rfl rfl rfl ?_)
   refine Tk_block (Tk_loopS (σ := Int) [0, 23, 24, 25] [0, 1] [0, 1] (fun s => ⟨[(0, some (.pointer (some ⟨b_m, 0, none⟩))), (23, some (vl1)), (24, some (vI (len l))), (25, some (vI s))], [some (cellsR b_m 83 [vm1, vm2]), some (rowsX u8S true vm2 vsm1 m.b none)], [Fact.sl RegionS vm1 m.l, Fact.sl SegS vl1 l]⟩) (fun nf1 s => seg_InL1 m l nf1 s = some r) fuel (0 : Int) h rfl rfl rfl rfl rfl (fun s h => by cases h) ?_)
   rintro nf1 x1 h
   replace h : seg_InL1B m l (seg_InL1 m l nf1) x1 = some r := h
   unfold seg_InL1B at h
   refine Tk_seq (Tk_region (Tops_step rfl (OpT_bin rfl rfl rfl rfl rfl (bin_lss_i (a := x1) (b := len l))) ?_))
   refine Tops_nil (Tk_seq ?_)
   rcases Bool.eq_false_or_eq_true (decide (x1 < (len l))) with hg3 | hg3
   ·replace h := br_t hg3 h
    refine Tk_condT (congrArg (fun b => some (Value.bool b)) hg3) ?_
    refine Tk_skip (Tk_seq (Tk_block (Tk_seq (Tk_region ?_))))
    obtain ⟨s1, hx3, h⟩ := ob_e h
    refine Tops_ex rfl (OpT_idxS rfl rfl rfl rfl rfl slF22 (i := 1) rfl hx3) fun p1 => ?_
    refine Tops_step rfl (OpT_loadPA (vs := [vU64 s1.At, vU32 s1.Len, vB s1.Write]) rfl rfl rfl rfl tyF32 (i := 2) rfl rfl) ?_
    refine Tops_ex rfl (OpT_alloc rfl rfl rfl tyZ32) fun b1 => ?_
    refine Tops_step rfl (OpT_storeC (cs' := [vU64 s1.At, vU32 s1.Len, vB s1.Write]) rfl rfl rfl rfl tyF32 (i := 2) rfl rfl rfl (one_of rfl) rfl) ?_
    refine Tops_nil (Tk_wkS (fr' := [(0, some (.pointer (some ⟨b_m, 0, none⟩))), (23, some (vl1)), (24, some (vI (len l))), (25, some (vI x1)), (9, some (.pointer (some ⟨b1, 0, none⟩)))]) (own' := [some (cellsR b_m 83 [vm1, vm2]), some (rowsX u8S true vm2 vsm1 m.b none), some (cellsR b1 32 [vU64 s1.At, vU32 s1.Len, vB s1.Write])]) (shr' := [Fact.sl RegionS vm1 m.l, Fact.sl SegS vl1 l]) [0, 23, 24, 25, 9] [0, 1, 2] [0, 1] rfl rfl rfl rfl ?_)
    refine Tk_seq (Tk_region (Tops_step rfl (OpT_move rfl rfl rfl rfl) ?_))
    refine Tops_step rfl (OpT_fieldC rfl rfl rfl rfl fldF32x0) ?_
    refine Tops_step rfl (OpT_loadC rfl rfl rfl rfl tyF29 (i := 2) rfl rfl) ?_
    refine Tops_step rfl (OpT_fieldC rfl rfl rfl rfl fldF32x1) ?_
    refine Tops_step rfl (OpT_loadC rfl rfl rfl rfl tyF30 (i := 2) rfl rfl) ?_
    refine Tops_step rfl (OpT_cnv rfl rfl rfl rfl (cnv_u32_u64 (n := s1.Len) Try.underlying30 Try.underlying29)) ?_
    obtain ⟨has1, hx4, h⟩ := ob_e h
    refine Tops_exP rfl (OpT_callP [3, 4, 2] (w_gmem_Mem_Has hx4) [0, 1] [0] rfl rfl rfl rfl rfl callee48 rfl rfl rfl rfl rfl) ?_
    rintro _ ⟨_, _, _, ⟨rfl, rfl, rfl⟩, rfl⟩
    refine Tops_step rfl (OpT_not rfl rfl rfl rfl) ?_
    refine Tops_nil (Tk_wkS (fr' := [(0, some (.pointer (some ⟨b_m, 0, none⟩))), (23, some (vl1)), (24, some (vI (len l))), (25, some (vI x1)), (36, some (vB (!has1)))]) (own' := [some (cellsR b_m 83 [vm1, vm2]), some (rowsX u8S true vm2 vsm1 m.b none)]) (shr' := [Fact.sl RegionS vm1 m.l, Fact.sl SegS vl1 l]) [0, 23, 24, 25, 36] [0, 1] [0, 1] rfl rfl rfl rfl ?_)
    rcases Bool.eq_false_or_eq_true ((!has1)) with hg4 | hg4
    ·replace h := br_t hg4 h
     refine Tk_condT (congrArg (fun b => some (Value.bool b)) hg4) ?_
     refine Tk_seq (Tk_region (Tops_step rfl (OpT_assign rfl rfl rfl rfl) ?_))
     refine Tops_nil (Tk_wkS (fr' := [(4, some (vI (5 : Int)))]) (own' := [some (cellsR b_m 83 [vm1, vm2]), some (rowsX u8S true vm2 vsm1 m.b none)]) (shr' := [Fact.sl RegionS vm1 m.l]) [4] [0, 1] [0] rfl rfl rfl rfl ?_)
     obtain rfl := Option.some.inj h
     exact Tk_retV rfl rfl (resA (vs := [vI (5 : Int)]) rfl ⟨rfl, trivial⟩) [0, 1] [] rfl rfl rfl ⟨rfl, rfl, rfl⟩
    ·replace h := br_f hg4 h
     refine Tk_condF (congrArg (fun b => some (Value.bool b)) hg4) ?_
     refine Tk_skip (Tk_blk (Tk_region (Tops_step rfl (OpT_bin rfl rfl rfl rfl rfl (bin_add_i (a := x1) (b := (1 : Int)))) ?_)))
     refine Tops_step rfl (OpT_move rfl rfl rfl rfl) ?_
     refine Tops_nil (Tk_wkS (fr' := [(0, some (.pointer (some ⟨b_m, 0, none⟩))), (23, some (vl1)), (24, some (vI (len l))), (25, some (vI (wi (x1 + (1 : Int)))))]) (own' := [some (cellsR b_m 83 [vm1, vm2]), some (rowsX u8S true vm2 vsm1 m.b none)]) (shr' := [Fact.sl RegionS vm1 m.l, Fact.sl SegS vl1 l]) [0, 23, 24, 25] [0, 1] [0, 1] rfl rfl rfl rfl ?_)
     exact Tk_backS (wi (x1 + (1 : Int))) h [0, 23, 24, 25] [0, 1] [0, 1] rfl rfl rfl rfl rfl
   ·replace h := br_f hg3 h
    refine Tk_condF (congrArg (fun b => some (Value.bool b)) hg3) ?_
    refine Tk_exit _ rfl ?_
    refine Tk_seq (Tk_region (Tops_step rfl (OpT_assign rfl rfl rfl rfl) ?_))
    refine Tops_nil (Tk_wkS (fr' := [(4, some (vI (0 : Int)))]) (own' := [some (cellsR b_m 83 [vm1, vm2]), some (rowsX u8S true vm2 vsm1 m.b none)]) (shr' := [Fact.sl RegionS vm1 m.l]) [4] [0, 1] [0] rfl rfl rfl rfl ?_)
    obtain rfl := Option.some.inj h
    exact Tk_retV rfl rfl (resA (vs := [vI (0 : Int)]) rfl ⟨rfl, trivial⟩) [0, 1] [] rfl rfl rfl ⟨rfl, rfl, rfl⟩

set_option maxRecDepth 100000 in
set_option maxHeartbeats 4000000 in
theorem w_seg_Gather {m : gmem_Mem} {l : List Seg} {b_m : Nat} {vm1 : Value} {vm2 : Value} {vsm1 : List Value} {vl1 : Value} {r : ((List UInt8) × Int)} (h : seg_Gather m l = some r) :
  Ctr Try.prog 54 #[.pointer (some ⟨b_m, 0, none⟩), vl1] [(cellsR b_m 83 [vm1, vm2]), (rowsX u8S true vm2 vsm1 m.b none)] [Fact.sl RegionS vm1 m.l, Fact.sl SegS vl1 l]
   (fun rv own shr => ∃ (w1 : Value), rv = .tuple #[w1, vI r.2] ∧ own = [(cellsR b_m 83 [vm1, vm2]), (rowsX u8S true vm2 vsm1 m.b none), (rowS u8S w1 r.1)] ∧ shr = []) := by
 unfold seg_Gather at h
 refine Ctr.mk (args := [.pointer (some ⟨b_m, 0, none⟩), vl1]) Try.func54 rfl rfl (fun R0 w0 B => ?_)
 refine Tk_seq (Tk_region (Tops_step rfl (OpT_assign rfl rfl rfl rfl) ?_))
 refine Tops_step rfl (OpT_assign rfl rfl rfl rfl) ?_
 refine Tops_nil (Tk_wkS (fr' := [(0, some (.pointer (some ⟨b_m, 0, none⟩))), (1, some (vl1))]) (own' := [some (cellsR b_m 83 [vm1, vm2]), some (rowsX u8S true vm2 vsm1 m.b none)]) (shr' := [Fact.sl RegionS vm1 m.l, Fact.sl SegS vl1 l]) [0, 1] [0, 1] [0, 1] rfl rfl rfl rfl ?_)
 refine Tk_seq (Tk_seq (Tk_region (Tops_step rfl (OpT_move rfl rfl rfl rfl) ?_)))
 refine Tops_step rfl (OpT_move rfl rfl rfl rfl) ?_
 obtain ⟨in1, hx1, h⟩ := ob_e h
 refine Tops_exP rfl (OpT_callP [2, 3] (w_seg_In hx1) [0, 1] [0, 1] rfl rfl rfl rfl rfl callee52 rfl rfl rfl rfl rfl) ?_
 rintro _ ⟨_, _, _, ⟨rfl, rfl, rfl⟩, rfl⟩
 refine Tops_step rfl (OpT_assign rfl rfl rfl rfl) ?_
 refine Tops_nil (Tk_wkS (fr' := [(0, some (.pointer (some ⟨b_m, 0, none⟩))), (1, some (vl1)), (6, some (vI in1))]) (own' := [some (cellsR b_m 83 [vm1, vm2]), some (rowsX u8S true vm2 vsm1 m.b none)]) (shr' := [Fact.sl RegionS vm1 m.l, Fact.sl SegS vl1 l]) [0, 1, 6] [0, 1] [0, 1] rfl rfl rfl rfl ?_)
 refine Tk_seq (Tk_region (Tops_step rfl (OpT_move rfl rfl rfl rfl) ?_))
 refine Tops_step rfl (OpT_bin rfl rfl rfl rfl rfl (bin_neq_i (a := in1) (b := (0 : Int)))) ?_
 refine Tops_nil (Tk_wkS (fr' := [(0, some (.pointer (some ⟨b_m, 0, none⟩))), (1, some (vl1)), (6, some (vI in1)), (16, some (vB (in1 != (0 : Int))))]) (own' := [some (cellsR b_m 83 [vm1, vm2]), some (rowsX u8S true vm2 vsm1 m.b none)]) (shr' := [Fact.sl RegionS vm1 m.l, Fact.sl SegS vl1 l]) [0, 1, 6, 16] [0, 1] [0, 1] rfl rfl rfl rfl ?_)
 rcases Bool.eq_false_or_eq_true (in1 != (0 : Int)) with hg1 | hg1
 ·replace h := br_t hg1 h
  refine Tk_condT (congrArg (fun b => some (Value.bool b)) hg1) ?_
  refine Tk_seq (Tk_region (Tops_step rfl (OpT_move rfl rfl rfl rfl) ?_))
  refine Tops_step rfl (OpT_assign rfl rfl rfl rfl) ?_
  refine Tops_step rfl (OpT_assign rfl rfl rfl rfl) ?_
  refine Tops_nil (Tk_wkS (fr' := [(4, some (.slice none 0 0)), (5, some (vI in1))]) (own' := [some (cellsR b_m 83 [vm1, vm2]), some (rowsX u8S true vm2 vsm1 m.b none)]) (shr' := [Fact.sl RegionS vm1 m.l]) [4, 5] [0, 1] [0] rfl rfl rfl rfl ?_)
  refine Tk_nilrow u8S ?_
  obtain rfl := Option.some.inj h
  exact Tk_retV rfl rfl (resA (vs := [.slice none 0 0, vI in1]) rfl ⟨rfl, rfl, trivial⟩) [0, 1, 2] [] rfl rfl rfl ⟨(.slice none 0 0), rfl, rfl, rfl⟩
 ·replace h := br_f hg1 h
  refine Tk_condF (congrArg (fun b => some (Value.bool b)) hg1) ?_
  refine Tk_skip (Tk_seq (Tk_region (Tops_step rfl (OpT_assign rfl rfl rfl rfl) ?_)))
  refine Tops_nil (Tk_wkS (fr' := [(0, some (.pointer (some ⟨b_m, 0, none⟩))), (1, some (vl1)), (7, some (.slice none 0 0))]) (own' := [some (cellsR b_m 83 [vm1, vm2]), some (rowsX u8S true vm2 vsm1 m.b none)]) (shr' := [Fact.sl RegionS vm1 m.l, Fact.sl SegS vl1 l]) [0, 1, 7] [0, 1] [0, 1] rfl rfl rfl rfl ?_)
  refine Tk_seq (Tk_seq (Tk_region (Tops_step rfl (OpT_move rfl rfl rfl rfl) ?_)))
  obtain ⟨part1, hx2, h⟩ := ob_e h
  refine Tops_exP rfl (OpT_call (w_seg_Part hx2) [] [1] rfl rfl rfl rfl rfl callee40 rfl rfl rfl rfl) ?_
  rintro _ ⟨v1, _, _, ⟨_, rfl, rfl, rfl⟩, rfl⟩
  refine Tops_step rfl (OpT_lenO rfl rfl rfl rfl Try.underlying22 (i := 2) rfl) ?_
  refine Tops_step rfl (OpT_move rfl rfl rfl rfl) ?_
  refine Tops_nil (Tk_wkS (fr' := [(0, some (.pointer (some ⟨b_m, 0, none⟩))), (7, some (.slice none 0 0)), (19, some (v1)), (20, some (vI (len part1))), (21, some (vI (0 : Int)))]) (own' := [some (cellsR b_m 83 [vm1, vm2]), some (rowsX u8S true vm2 vsm1 m.b none), some (rowS SegS v1 part1)]) (shr' := [Fact.sl RegionS vm1 m.l]) [0, 7, 19, 20, 21] [0, 1, 2] [0] rfl rfl rfl rfl ?_)
  refine Tk_block (Tk_nilrow (Shape.slice u8S) ?_)
  refine Tk_loopS (σ := (List (List UInt8)) × (List Seg) × Int × Value × Value) [0, 7, 19, 20, 21] [0, 1, 3, 2] [0] (fun s => ⟨[(0, some (.pointer (some ⟨b_m, 0, none⟩))), (7, some (s.2.2.2.1)), (19, some (s.2.2.2.2)), (20, some (vI (len part1))), (21, some (vI s.2.2.1))], [some (cellsR b_m 83 [vm1, vm2]), some (rowsX u8S true vm2 vsm1 m.b none), some (rowS (Shape.slice u8S) s.2.2.2.1 s.1), some (rowS SegS s.2.2.2.2 s.2.1)], [Fact.sl RegionS vm1 m.l]⟩) (fun nf1 s => seg_GatherL1 m part1 nf1 s.1 s.2.1 s.2.2.1 = some r) fuel ([], part1, (0 : Int), (.slice none 0 0), v1) h rfl rfl rfl rfl rfl (fun s h => by cases h) ?_
  rintro nf1 ⟨parts1, l1, x1, v2, v3⟩ h
  replace h : seg_GatherL1B m part1 (seg_GatherL1 m part1 nf1) parts1 l1 x1 = some r := h
  unfold seg_GatherL1B at h
  refine Tk_seq (Tk_region (Tops_step rfl (OpT_bin rfl rfl rfl rfl rfl (bin_lss_i (a := x1) (b := len part1))) ?_))
  refine Tops_nil (Tk_seq ?_)
  rcases Bool.eq_false_or_eq_true (decide (x1 < (len part1))) with hg2 | hg2
  ·replace h := br_t hg2 h
   refine Tk_condT (congrArg (fun b => some (Value.bool b)) hg2) ?_
   refine Tk_skip (Tk_seq (Tk_block (Tk_seq (Tk_region ?_))))
   obtain ⟨s1, hx3, h⟩ := ob_e h
   refine Tops_step rfl (OpT_idxO rfl rfl rfl rfl rfl slF22 (i := 3) rfl hx3) ?_
   refine Tops_step rfl (OpT_loadOA (S := SegS) (vs := [vU64 s1.At, vU32 s1.Len, vB s1.Write]) rfl rfl rfl rfl rfl tyF32 (i := 3) rfl hx3 rfl) ?_
   refine Tops_ex rfl (OpT_alloc rfl rfl rfl tyZ32) fun b1 => ?_
   refine Tops_step rfl (OpT_storeC (cs' := [vU64 s1.At, vU32 s1.Len, vB s1.Write]) rfl rfl rfl rfl tyF32 (i := 4) rfl rfl rfl (one_of rfl) rfl) ?_
   refine Tops_nil (Tk_wkS (fr' := [(0, some (.pointer (some ⟨b_m, 0, none⟩))), (7, some (v2)), (19, some (v3)), (20, some (vI (len part1))), (21, some (vI x1)), (9, some (.pointer (some ⟨b1, 0, none⟩)))]) (own' := [some (cellsR b_m 83 [vm1, vm2]), some (rowsX u8S true vm2 vsm1 m.b none), some (rowS (Shape.slice u8S) v2 parts1), some (rowS SegS v3 l1), some (cellsR b1 32 [vU64 s1.At, vU32 s1.Len, vB s1.Write])]) (shr' := [Fact.sl RegionS vm1 m.l]) [0, 7, 19, 20, 21, 9] [0, 1, 2, 3, 4] [0] rfl rfl rfl rfl ?_)
   refine Tk_seq (Tk_region (Tops_step rfl (OpT_move rfl rfl rfl rfl) ?_))
   refine Tops_step rfl (OpT_fieldC rfl rfl rfl rfl fldF32x0) ?_
   refine Tops_step rfl (OpT_loadC rfl rfl rfl rfl tyF29 (i := 4) rfl rfl) ?_
   refine Tops_step rfl (OpT_fieldC rfl rfl rfl rfl fldF32x1) ?_
   refine Tops_step rfl (OpT_loadC rfl rfl rfl rfl tyF30 (i := 4) rfl rfl) ?_
   refine Tops_step rfl (OpT_cnv rfl rfl rfl rfl (cnv_u32_i (n := s1.Len) Try.underlying30 Try.underlying3)) ?_
   obtain ⟨read1, hx4, h⟩ := ob_e h
   refine Tops_exP rfl (OpT_callP [5, 6, 2, 3, 4, 7] (w_gmem_Mem_Read hx4) [0, 1] [0] rfl rfl rfl rfl rfl callee77 rfl rfl rfl rfl rfl) ?_
   rintro _ ⟨_, _, _, ⟨v4, rfl, rfl, rfl⟩, rfl⟩
   refine Tops_step rfl (OpT_move rfl rfl rfl rfl) ?_
   refine Tops_step rfl (OpT_extract rfl rfl rfl rfl rfl) ?_
   refine Tops_step rfl (OpT_extract rfl rfl rfl rfl rfl) ?_
   refine Tops_step rfl (OpT_assign rfl rfl rfl rfl) ?_
   refine Tops_step rfl (OpT_assign rfl rfl rfl rfl) ?_
   refine Tops_nil (Tk_wkS (fr' := [(0, some (.pointer (some ⟨b_m, 0, none⟩))), (7, some (v2)), (19, some (v3)), (20, some (vI (len part1))), (21, some (vI x1)), (10, some (v4)), (11, some (vI read1.2))]) (own' := [some (cellsR b_m 83 [vm1, vm2]), some (rowsX u8S true vm2 vsm1 m.b none), some (rowS (Shape.slice u8S) v2 parts1), some (rowS SegS v3 l1), some (rowS u8S v4 read1.1)]) (shr' := [Fact.sl RegionS vm1 m.l]) [0, 7, 19, 20, 21, 10, 11] [0, 1, 2, 3, 5] [0] rfl rfl rfl rfl ?_)
   refine Tk_seq (Tk_seq (Tk_region (Tops_step rfl (OpT_move rfl rfl rfl rfl) ?_)))
   refine Tops_step rfl (OpT_bin rfl rfl rfl rfl rfl (bin_neq_i (a := read1.2) (b := (0 : Int)))) ?_
   refine Tops_nil (Tk_wkS (fr' := [(0, some (.pointer (some ⟨b_m, 0, none⟩))), (7, some (v2)), (19, some (v3)), (20, some (vI (len part1))), (21, some (vI x1)), (10, some (v4)), (11, some (vI read1.2)), (36, some (vB (read1.2 != (0 : Int))))]) (own' := [some (cellsR b_m 83 [vm1, vm2]), some (rowsX u8S true vm2 vsm1 m.b none), some (rowS (Shape.slice u8S) v2 parts1), some (rowS SegS v3 l1), some (rowS u8S v4 read1.1)]) (shr' := [Fact.sl RegionS vm1 m.l]) [0, 7, 19, 20, 21, 10, 11, 36] [0, 1, 2, 3, 4] [0] rfl rfl rfl rfl ?_)
   rcases Bool.eq_false_or_eq_true (read1.2 != (0 : Int)) with hg3 | hg3
   ·replace h := br_t hg3 h
    refine Tk_condT (congrArg (fun b => some (Value.bool b)) hg3) ?_
    refine Tk_seq (Tk_region (Tops_step rfl (OpT_move rfl rfl rfl rfl) ?_))
    refine Tops_step rfl (OpT_assign rfl rfl rfl rfl) ?_
    refine Tops_step rfl (OpT_assign rfl rfl rfl rfl) ?_
    refine Tops_nil (Tk_wkS (fr' := [(4, some (.slice none 0 0)), (5, some (vI read1.2))]) (own' := [some (cellsR b_m 83 [vm1, vm2]), some (rowsX u8S true vm2 vsm1 m.b none)]) (shr' := [Fact.sl RegionS vm1 m.l]) [4, 5] [0, 1] [0] rfl rfl rfl rfl ?_)
    refine Tk_nilrow u8S ?_
    obtain rfl := Option.some.inj h
    exact Tk_retV rfl rfl (resA (vs := [.slice none 0 0, vI read1.2]) rfl ⟨rfl, rfl, trivial⟩) [0, 1, 2] [] rfl rfl rfl ⟨(.slice none 0 0), rfl, rfl, rfl⟩
   ·replace h := br_f hg3 h
    refine Tk_condF (congrArg (fun b => some (Value.bool b)) hg3) ?_
    refine Tk_skip (Tk_region (Tops_step rfl (OpT_move rfl rfl rfl rfl) ?_))
    refine Tops_step rfl (OpT_move rfl rfl rfl rfl) ?_
    refine Tops_retire (i := 4) rfl ?_
    refine Tops_ex rfl (OpT_buildSl (Shape.slice u8S) (vs := [v4]) (xs := [read1.1]) rfl rfl rfl rfl rfl slF81 (isl_cons (is_sl (i := 1) rfl) isl_nil) rfl rfl rfl (rel_cons (rel_sl (i := 1) rfl) (rel_nil rfl))) fun v5 => ?_
    refine Tops_retire (i := 5) rfl ?_
    obtain ⟨hc1, h⟩ := chk_e h
    refine Tops_ex rfl (OpT_append rfl rfl rfl rfl rfl slF81 (i := 2) (j := 2) rfl rfl hc1) fun v6 => ?_
    refine Tops_step rfl (OpT_assign rfl rfl rfl rfl) ?_
    refine Tops_nil (Tk_wkS (fr' := [(0, some (.pointer (some ⟨b_m, 0, none⟩))), (7, some (v6)), (19, some (v3)), (20, some (vI (len part1))), (21, some (vI x1))]) (own' := [some (cellsR b_m 83 [vm1, vm2]), some (rowsX u8S true vm2 vsm1 m.b none), some (rowS (Shape.slice u8S) v6 (parts1 ++ [read1.1])), some (rowS SegS v3 l1)]) (shr' := [Fact.sl RegionS vm1 m.l]) [0, 7, 19, 20, 21] [0, 1, 2, 3] [0] rfl rfl rfl rfl ?_)
    refine Tk_blk (Tk_region (Tops_step rfl (OpT_bin rfl rfl rfl rfl rfl (bin_add_i (a := x1) (b := (1 : Int)))) ?_))
    refine Tops_step rfl (OpT_move rfl rfl rfl rfl) ?_
    refine Tops_nil (Tk_wkS (fr' := [(0, some (.pointer (some ⟨b_m, 0, none⟩))), (7, some (v6)), (19, some (v3)), (20, some (vI (len part1))), (21, some (vI (wi (x1 + (1 : Int)))))]) (own' := [some (cellsR b_m 83 [vm1, vm2]), some (rowsX u8S true vm2 vsm1 m.b none), some (rowS (Shape.slice u8S) v6 (parts1 ++ [read1.1])), some (rowS SegS v3 l1)]) (shr' := [Fact.sl RegionS vm1 m.l]) [0, 7, 19, 20, 21] [0, 1, 2, 3] [0] rfl rfl rfl rfl ?_)
    exact Tk_backS (parts1 ++ [read1.1], l1, wi (x1 + (1 : Int)), v6, v3) h [0, 7, 19, 20, 21] [0, 1, 2, 3] [0] rfl rfl rfl rfl rfl
  ·replace h := br_f hg2 h
   refine Tk_condF (congrArg (fun b => some (Value.bool b)) hg2) ?_
   refine Tk_exit _ rfl ?_
   refine Tk_seq (Tk_region (Tops_step rfl (OpT_move rfl rfl rfl rfl) ?_))
   obtain ⟨concat1, hx5, h⟩ := ob_e h
   refine Tops_exP rfl (OpT_callB [2] [0, 1, 2, 3, 4] (w_slices_Concat_bytebyte hx5) [] rfl rfl rfl rfl rfl callee50 rfl rfl rfl rfl rfl rfl (bor_cons (bor_row 2 rfl rfl) bor_nil) (by rintro _ _ _ ⟨_, rfl, rfl, rfl⟩; exact ⟨rfl, (ri_cons (ri_row (S := u8S) rfl _ _) ri_nil)⟩)) ?_
   rintro _ ⟨v7, _, _, ⟨_, rfl, rfl, rfl⟩, rfl⟩
   refine Tops_step rfl (OpT_assign rfl rfl rfl rfl) ?_
   refine Tops_step rfl (OpT_assign rfl rfl rfl rfl) ?_
   refine Tops_nil (Tk_wkS (fr' := [(4, some (v7)), (5, some (vI (0 : Int)))]) (own' := [some (cellsR b_m 83 [vm1, vm2]), some (rowsX u8S true vm2 vsm1 m.b none), some (rowS u8S v7 concat1)]) (shr' := [Fact.sl RegionS vm1 m.l]) [4, 5] [0, 1, 4] [0] rfl rfl rfl rfl ?_)
   obtain rfl := Option.some.inj h
   exact Tk_retV rfl rfl (resA (vs := [v7, vI (0 : Int)]) rfl ⟨rfl, rfl, trivial⟩) [0, 1, 2] [] rfl rfl rfl ⟨v7, rfl, rfl, rfl⟩

set_option maxRecDepth 100000 in
set_option maxHeartbeats 4000000 in
theorem w_blkdrv_Result {m : gmem_Mem} {l : List Seg} {written : UInt32} {b_m : Nat} {vm1 : Value} {vm2 : Value} {vsm1 : List Value} {vl1 : Value} {r : ((List UInt8) × UInt8 × Int)} (h : blkdrv_Result m l written = some r) :
  Ctr Try.prog 23 #[.pointer (some ⟨b_m, 0, none⟩), vl1, vU32 written] [(cellsR b_m 83 [vm1, vm2]), (rowsX u8S true vm2 vsm1 m.b none)] [Fact.sl RegionS vm1 m.l, Fact.sl SegS vl1 l]
   (fun rv own shr => ∃ (w1 : Value), rv = .tuple #[w1, vU8 r.2.1, vI r.2.2] ∧ own = [(cellsR b_m 83 [vm1, vm2]), (rowsX u8S true vm2 vsm1 m.b none)] ∧ shr = [Fact.sl u8S w1 r.1]) := by
 unfold blkdrv_Result at h
 refine Ctr.mk (args := [.pointer (some ⟨b_m, 0, none⟩), vl1, vU32 written]) Try.func23 rfl rfl (fun R0 w0 B => ?_)
 refine Tk_seq (Tk_region (Tops_step rfl (OpT_assign rfl rfl rfl rfl) ?_))
 refine Tops_step rfl (OpT_assign rfl rfl rfl rfl) ?_
 refine Tops_step rfl (OpT_assign rfl rfl rfl rfl) ?_
 refine Tops_nil (Tk_wkS (fr' := [(0, some (.pointer (some ⟨b_m, 0, none⟩))), (1, some (vl1)), (2, some (vU32 written))]) (own' := [some (cellsR b_m 83 [vm1, vm2]), some (rowsX u8S true vm2 vsm1 m.b none)]) (shr' := [Fact.sl RegionS vm1 m.l, Fact.sl SegS vl1 l]) [0, 1, 2] [0, 1] [0, 1] rfl rfl rfl rfl ?_)
 refine Tk_seq (Tk_seq (Tk_region (Tops_step rfl (OpT_move rfl rfl rfl rfl) ?_)))
 refine Tops_step rfl (OpT_move rfl rfl rfl rfl) ?_
 obtain ⟨in1, hx1, h⟩ := ob_e h
 refine Tops_exP rfl (OpT_callP [2, 3] (w_seg_In hx1) [0, 1] [0, 1] rfl rfl rfl rfl rfl callee52 rfl rfl rfl rfl rfl) ?_
 rintro _ ⟨_, _, _, ⟨rfl, rfl, rfl⟩, rfl⟩
 refine Tops_step rfl (OpT_assign rfl rfl rfl rfl) ?_
 refine Tops_nil (Tk_wkS (fr' := [(0, some (.pointer (some ⟨b_m, 0, none⟩))), (1, some (vl1)), (2, some (vU32 written)), (9, some (vI in1))]) (own' := [some (cellsR b_m 83 [vm1, vm2]), some (rowsX u8S true vm2 vsm1 m.b none)]) (shr' := [Fact.sl RegionS vm1 m.l, Fact.sl SegS vl1 l]) [0, 1, 2, 9] [0, 1] [0, 1] rfl rfl rfl rfl ?_)
 refine Tk_seq (Tk_region (Tops_step rfl (OpT_move rfl rfl rfl rfl) ?_))
 refine Tops_step rfl (OpT_bin rfl rfl rfl rfl rfl (bin_neq_i (a := in1) (b := (0 : Int)))) ?_
 refine Tops_nil (Tk_wkS (fr' := [(0, some (.pointer (some ⟨b_m, 0, none⟩))), (1, some (vl1)), (2, some (vU32 written)), (9, some (vI in1)), (21, some (vB (in1 != (0 : Int))))]) (own' := [some (cellsR b_m 83 [vm1, vm2]), some (rowsX u8S true vm2 vsm1 m.b none)]) (shr' := [Fact.sl RegionS vm1 m.l, Fact.sl SegS vl1 l]) [0, 1, 2, 9, 21] [0, 1] [0, 1] rfl rfl rfl rfl ?_)
 rcases Bool.eq_false_or_eq_true (in1 != (0 : Int)) with hg1 | hg1
 ·replace h := br_t hg1 h
  refine Tk_condT (congrArg (fun b => some (Value.bool b)) hg1) ?_
  refine Tk_seq (Tk_region (Tops_step rfl (OpT_move rfl rfl rfl rfl) ?_))
  refine Tops_step rfl (OpT_assign rfl rfl rfl rfl) ?_
  refine Tops_step rfl (OpT_assign rfl rfl rfl rfl) ?_
  refine Tops_step rfl (OpT_assign rfl rfl rfl rfl) ?_
  refine Tops_nil (Tk_wkS (fr' := [(6, some (.slice none 0 0)), (7, some (vU8 (0 : UInt8))), (8, some (vI in1))]) (own' := [some (cellsR b_m 83 [vm1, vm2]), some (rowsX u8S true vm2 vsm1 m.b none)]) (shr' := [Fact.sl RegionS vm1 m.l]) [6, 7, 8] [0, 1] [0] rfl rfl rfl rfl ?_)
  refine Tk_nilfact u8S ?_
  obtain rfl := Option.some.inj h
  exact Tk_retV rfl rfl (resA (vs := [.slice none 0 0, vU8 (0 : UInt8), vI in1]) rfl ⟨rfl, rfl, rfl, trivial⟩) [0, 1] [1] rfl rfl rfl ⟨(.slice none 0 0), rfl, rfl, rfl⟩
 ·replace h := br_f hg1 h
  refine Tk_condF (congrArg (fun b => some (Value.bool b)) hg1) ?_
  refine Tk_skip (Tk_seq (Tk_region (Tops_step rfl (OpT_move rfl rfl rfl rfl) ?_)))
  obtain ⟨part1, hx2, h⟩ := ob_e h
  refine Tops_exP rfl (OpT_call (w_seg_Part hx2) [] [1] rfl rfl rfl rfl rfl callee40 rfl rfl rfl rfl) ?_
  rintro _ ⟨v1, _, _, ⟨_, rfl, rfl, rfl⟩, rfl⟩
  refine Tops_step rfl (OpT_assign rfl rfl rfl rfl) ?_
  refine Tops_nil (Tk_wkS (fr' := [(0, some (.pointer (some ⟨b_m, 0, none⟩))), (2, some (vU32 written)), (10, some (v1))]) (own' := [some (cellsR b_m 83 [vm1, vm2]), some (rowsX u8S true vm2 vsm1 m.b none), some (rowS SegS v1 part1)]) (shr' := [Fact.sl RegionS vm1 m.l]) [0, 2, 10] [0, 1, 2] [0] rfl rfl rfl rfl ?_)
  refine Tk_seq (Tk_region (Tops_step rfl (OpT_move rfl rfl rfl rfl) ?_))
  obtain ⟨total1, hx3, h⟩ := ob_e h
  refine Tops_exP rfl (OpT_callB [2] [0, 1, 2] (w_seg_Total hx3) [] rfl rfl rfl rfl rfl callee53 rfl rfl rfl rfl rfl rfl (bor_cons (bor_row 2 rfl rfl) bor_nil) (by rintro _ _ _ ⟨rfl, rfl, rfl⟩; exact ⟨rfl, ri_nil⟩)) ?_
  rintro _ ⟨_, _, _, ⟨rfl, rfl, rfl⟩, rfl⟩
  refine Tops_step rfl (OpT_move rfl rfl rfl rfl) ?_
  refine Tops_step rfl (OpT_extract rfl rfl rfl rfl rfl) ?_
  refine Tops_step rfl (OpT_extract rfl rfl rfl rfl rfl) ?_
  refine Tops_step rfl (OpT_assign rfl rfl rfl rfl) ?_
  refine Tops_step rfl (OpT_assign rfl rfl rfl rfl) ?_
  refine Tops_nil (Tk_wkS (fr' := [(0, some (.pointer (some ⟨b_m, 0, none⟩))), (2, some (vU32 written)), (10, some (v1)), (12, some (vU64 total1.2))]) (own' := [some (cellsR b_m 83 [vm1, vm2]), some (rowsX u8S true vm2 vsm1 m.b none), some (rowS SegS v1 part1)]) (shr' := [Fact.sl RegionS vm1 m.l]) [0, 2, 10, 12] [0, 1, 2] [0] rfl rfl rfl rfl ?_)
  refine Tk_seq (Tk_block (Tk_seq (Tk_region (Tops_step rfl (OpT_move rfl rfl rfl rfl) ?_))))
  refine Tops_step rfl (OpT_bin rfl rfl rfl rfl rfl (bin_eql_u64 (a := total1.2) (b := (0 : UInt64)))) ?_
  refine Tops_step rfl (OpT_assign rfl rfl rfl rfl) ?_
  refine Tops_nil (Tk_wkS (fr' := [(0, some (.pointer (some ⟨b_m, 0, none⟩))), (2, some (vU32 written)), (10, some (v1)), (12, some (vU64 total1.2)), (30, some (vB (total1.2 == (0 : UInt64))))]) (own' := [some (cellsR b_m 83 [vm1, vm2]), some (rowsX u8S true vm2 vsm1 m.b none), some (rowS SegS v1 part1)]) (shr' := [Fact.sl RegionS vm1 m.l]) [0, 2, 10, 12, 30] [0, 1, 2] [0] rfl rfl rfl rfl ?_)
  rcases Bool.eq_false_or_eq_true (total1.2 == (0 : UInt64)) with hg2 | hg2
  ·replace h := br_t hg2 h
   refine Tk_condT (congrArg (fun b => some (Value.bool b)) hg2) ?_
   refine Tk_seq (Tk_region (Tops_step rfl (OpT_assign rfl rfl rfl rfl) ?_))
   refine Tops_step rfl (OpT_assign rfl rfl rfl rfl) ?_
   refine Tops_step rfl (OpT_assign rfl rfl rfl rfl) ?_
   refine Tops_nil (Tk_wkS (fr' := [(6, some (.slice none 0 0)), (7, some (vU8 (0 : UInt8))), (8, some (vI (2 : Int)))]) (own' := [some (cellsR b_m 83 [vm1, vm2]), some (rowsX u8S true vm2 vsm1 m.b none)]) (shr' := [Fact.sl RegionS vm1 m.l]) [6, 7, 8] [0, 1] [0] rfl rfl rfl rfl ?_)
   refine Tk_nilfact u8S ?_
   obtain rfl := Option.some.inj h
   exact Tk_retV rfl rfl (resA (vs := [.slice none 0 0, vU8 (0 : UInt8), vI (2 : Int)]) rfl ⟨rfl, rfl, rfl, trivial⟩) [0, 1] [1] rfl rfl rfl ⟨(.slice none 0 0), rfl, rfl, rfl⟩
  ·replace h := br_f hg2 h
   refine Tk_condF (congrArg (fun b => some (Value.bool b)) hg2) ?_
   refine Tk_seq (Tk_region (Tops_step rfl (OpT_move rfl rfl rfl rfl) ?_))
   refine Tops_step rfl (OpT_bin rfl rfl rfl rfl rfl (bin_eql_u32 (a := written) (b := (0 : UInt32)))) ?_
   refine Tops_step rfl (OpT_move rfl rfl rfl rfl) ?_
   rcases Bool.eq_false_or_eq_true (written == (0 : UInt32)) with hg3 | hg3
   ·replace h := br_t hg3 h
    refine Tops_no rfl rfl (congrArg (fun b => some (Value.bool b)) hg3) rfl rfl ?_
    refine Tops_no rfl rfl (congrArg (fun b => some (Value.bool b)) hg3) rfl rfl ?_
    refine Tops_no rfl rfl (congrArg (fun b => some (Value.bool b)) hg3) rfl rfl ?_
    refine Tops_no rfl rfl (congrArg (fun b => some (Value.bool b)) hg3) rfl rfl ?_
    refine Tops_step rfl (OpT_pickT rfl rfl rfl (congrArg (fun b => some (Value.bool b)) hg3) rfl) ?_
    refine Tops_step rfl (OpT_assign rfl rfl rfl rfl) ?_
    refine Tops_nil (Tk_wkS (fr' := [(0, some (.pointer (some ⟨b_m, 0, none⟩))), (2, some (vU32 written)), (10, some (v1)), (12, some (vU64 total1.2)), (33, some (vB true))]) (own' := [some (cellsR b_m 83 [vm1, vm2]), some (rowsX u8S true vm2 vsm1 m.b none), some (rowS SegS v1 part1)]) (shr' := [Fact.sl RegionS vm1 m.l]) [0, 2, 10, 12, 33] [0, 1, 2] [0] rfl rfl rfl rfl ?_)
    refine Tk_condT rfl ?_
    refine Tk_seq (Tk_region (Tops_step rfl (OpT_assign rfl rfl rfl rfl) ?_))
    refine Tops_step rfl (OpT_assign rfl rfl rfl rfl) ?_
    refine Tops_step rfl (OpT_assign rfl rfl rfl rfl) ?_
    refine Tops_nil (Tk_wkS (fr' := [(6, some (.slice none 0 0)), (7, some (vU8 (0 : UInt8))), (8, some (vI (4 : Int)))]) (own' := [some (cellsR b_m 83 [vm1, vm2]), some (rowsX u8S true vm2 vsm1 m.b none)]) (shr' := [Fact.sl RegionS vm1 m.l]) [6, 7, 8] [0, 1] [0] rfl rfl rfl rfl ?_)
    refine Tk_nilfact u8S ?_
    obtain rfl := Option.some.inj h
    exact Tk_retV rfl rfl (resA (vs := [.slice none 0 0, vU8 (0 : UInt8), vI (4 : Int)]) rfl ⟨rfl, rfl, rfl, trivial⟩) [0, 1] [1] rfl rfl rfl ⟨(.slice none 0 0), rfl, rfl, rfl⟩
   ·replace h := br_f hg3 h
    refine Tops_yes rfl rfl (congrArg (fun b => some (Value.bool b)) hg3) (OpT_move rfl rfl rfl rfl) ?_
    rintro _ rfl
    refine Tops_yes rfl rfl (congrArg (fun b => some (Value.bool b)) hg3) (OpT_cnv rfl rfl rfl rfl (cnv_u32_u64 (n := written) Try.underlying30 Try.underlying29)) ?_
    rintro _ rfl
    refine Tops_yes rfl rfl (congrArg (fun b => some (Value.bool b)) hg3) (OpT_move rfl rfl rfl rfl) ?_
    rintro _ rfl
    refine Tops_yes rfl rfl (congrArg (fun b => some (Value.bool b)) hg3) (OpT_bin rfl rfl rfl rfl rfl (bin_gtr_u64 (a := written.toUInt64) (b := total1.2))) ?_
    rintro _ rfl
    refine Tops_step rfl (OpT_pickF rfl rfl rfl (congrArg (fun b => some (Value.bool b)) hg3) rfl) ?_
    refine Tops_step rfl (OpT_assign rfl rfl rfl rfl) ?_
    refine Tops_nil (Tk_wkS (fr' := [(0, some (.pointer (some ⟨b_m, 0, none⟩))), (2, some (vU32 written)), (10, some (v1)), (12, some (vU64 total1.2)), (33, some (vB (decide (written.toUInt64 > total1.2))))]) (own' := [some (cellsR b_m 83 [vm1, vm2]), some (rowsX u8S true vm2 vsm1 m.b none), some (rowS SegS v1 part1)]) (shr' := [Fact.sl RegionS vm1 m.l]) [0, 2, 10, 12, 33] [0, 1, 2] [0] rfl rfl rfl rfl ?_)
    rcases Bool.eq_false_or_eq_true (decide (written.toUInt64 > total1.2)) with hg4 | hg4
    ·replace h := br_t hg4 h
     refine Tk_condT (congrArg (fun b => some (Value.bool b)) hg4) ?_
     refine Tk_seq (Tk_region (Tops_step rfl (OpT_assign rfl rfl rfl rfl) ?_))
     refine Tops_step rfl (OpT_assign rfl rfl rfl rfl) ?_
     refine Tops_step rfl (OpT_assign rfl rfl rfl rfl) ?_
     refine Tops_nil (Tk_wkS (fr' := [(6, some (.slice none 0 0)), (7, some (vU8 (0 : UInt8))), (8, some (vI (4 : Int)))]) (own' := [some (cellsR b_m 83 [vm1, vm2]), some (rowsX u8S true vm2 vsm1 m.b none)]) (shr' := [Fact.sl RegionS vm1 m.l]) [6, 7, 8] [0, 1] [0] rfl rfl rfl rfl ?_)
     refine Tk_nilfact u8S ?_
     obtain rfl := Option.some.inj h
     exact Tk_retV rfl rfl (resA (vs := [.slice none 0 0, vU8 (0 : UInt8), vI (4 : Int)]) rfl ⟨rfl, rfl, rfl, trivial⟩) [0, 1] [1] rfl rfl rfl ⟨(.slice none 0 0), rfl, rfl, rfl⟩
    ·replace h := br_f hg4 h
     refine Tk_condF (congrArg (fun b => some (Value.bool b)) hg4) ?_
     refine Tk_skip (Tk_blk (Tk_seq (Tk_seq (Tk_region (Tops_step rfl (OpT_move rfl rfl rfl rfl) ?_)))))
     refine Tops_step rfl (OpT_lenO rfl rfl rfl rfl Try.underlying22 (i := 2) rfl) ?_
     refine Tops_step rfl (OpT_move rfl rfl rfl rfl) ?_
     refine Tops_nil (Tk_wkS (fr' := [(0, some (.pointer (some ⟨b_m, 0, none⟩))), (2, some (vU32 written)), (10, some (v1)), (12, some (vU64 total1.2)), (43, some (vI (len part1))), (44, some (vI (0 : Int)))]) (own' := [some (cellsR b_m 83 [vm1, vm2]), some (rowsX u8S true vm2 vsm1 m.b none), some (rowS SegS v1 part1)]) (shr' := [Fact.sl RegionS vm1 m.l]) [0, 2, 10, 12, 43, 44] [0, 1, 2] [0] rfl rfl rfl rfl ?_)
     refine Tk_block (Tk_loopS (σ := (List Seg) × Int × Value) [0, 2, 10, 12, 43, 44] [0, 1, 2] [0] (fun s => ⟨[(0, some (.pointer (some ⟨b_m, 0, none⟩))), (2, some (vU32 written)), (10, some (s.2.2)), (12, some (vU64 total1.2)), (43, some (vI (len part1))), (44, some (vI s.2.1))], [some (cellsR b_m 83 [vm1, vm2]), some (rowsX u8S true vm2 vsm1 m.b none), some (rowS SegS s.2.2 s.1)], [Fact.sl RegionS vm1 m.l]⟩) (fun nf1 s => blkdrv_ResultL1 m written part1 total1 nf1 s.1 s.2.1 = some r) fuel (part1, (0 : Int), v1) h rfl rfl rfl rfl rfl (fun s h => by cases h) ?_)
     rintro nf1 ⟨l1, x1, v2⟩ h
     replace h : blkdrv_ResultL1B m written part1 total1 (blkdrv_ResultL1 m written part1 total1 nf1) l1 x1 = some r := h
     unfold blkdrv_ResultL1B at h
     refine Tk_seq (Tk_region (Tops_step rfl (OpT_bin rfl rfl rfl rfl rfl (bin_lss_i (a := x1) (b := len part1))) ?_))
     refine Tops_nil (Tk_seq ?_)
     rcases Bool.eq_false_or_eq_true (decide (x1 < (len part1))) with hg5 | hg5
     ·replace h := br_t hg5 h
      refine Tk_condT (congrArg (fun b => some (Value.bool b)) hg5) ?_
      refine Tk_skip (Tk_seq (Tk_block (Tk_seq (Tk_region (Tops_step rfl (OpT_move rfl rfl rfl rfl) ?_)))))
      refine Tops_step rfl (OpT_assign rfl rfl rfl rfl) ?_
      refine Tops_nil (Tk_wkS (fr' := [(0, some (.pointer (some ⟨b_m, 0, none⟩))), (2, some (vU32 written)), (10, some (v2)), (12, some (vU64 total1.2)), (43, some (vI (len part1))), (44, some (vI x1)), (13, some (vI x1))]) (own' := [some (cellsR b_m 83 [vm1, vm2]), some (rowsX u8S true vm2 vsm1 m.b none), some (rowS SegS v2 l1)]) (shr' := [Fact.sl RegionS vm1 m.l]) [0, 2, 10, 12, 43, 44, 13] [0, 1, 2] [0] rfl rfl rfl rfl ?_)
      refine Tk_region (Tops_step rfl (OpT_move rfl rfl rfl rfl) ?_)
      refine Tops_step rfl (OpT_move rfl rfl rfl rfl) ?_
      obtain ⟨s1, hx4, h⟩ := ob_e h
      refine Tops_step rfl (OpT_idxO rfl rfl rfl rfl rfl slF22 (i := 2) rfl hx4) ?_
      refine Tops_step rfl (OpT_fieldR (S := SegS) rfl rfl rfl rfl fldF32x2 (i := 2) rfl hx4) ?_
      refine Tops_step rfl (OpT_storeOF (S := SegS) (u := (Seg.mk s1.At s1.Len false)) rfl rfl rfl rfl rfl tyF4 (i := 2) rfl hx4 rfl rfl rfl) ?_
      refine Tops_nil (Tk_wkS (fr' := [(0, some (.pointer (some ⟨b_m, 0, none⟩))), (2, some (vU32 written)), (10, some (v2)), (12, some (vU64 total1.2)), (43, some (vI (len part1))), (44, some (vI x1))]) (own' := [some (cellsR b_m 83 [vm1, vm2]), some (rowsX u8S true vm2 vsm1 m.b none), some (rowS SegS v2 (l1.set x1.toNat (Seg.mk s1.At s1.Len false)))]) (shr' := [Fact.sl RegionS vm1 m.l]) [0, 2, 10, 12, 43, 44] [0, 1, 2] [0] rfl rfl rfl rfl ?_)
      refine Tk_blk (Tk_region (Tops_step rfl (OpT_bin rfl rfl rfl rfl rfl (bin_add_i (a := x1) (b := (1 : Int)))) ?_))
      refine Tops_step rfl (OpT_move rfl rfl rfl rfl) ?_
      refine Tops_nil (Tk_wkS (fr' := [(0, some (.pointer (some ⟨b_m, 0, none⟩))), (2, some (vU32 written)), (10, some (v2)), (12, some (vU64 total1.2)), (43, some (vI (len part1))), (44, some (vI (wi (x1 + (1 : Int)))))]) (own' := [some (cellsR b_m 83 [vm1, vm2]), some (rowsX u8S true vm2 vsm1 m.b none), some (rowS SegS v2 (l1.set x1.toNat (Seg.mk s1.At s1.Len false)))]) (shr' := [Fact.sl RegionS vm1 m.l]) [0, 2, 10, 12, 43, 44] [0, 1, 2] [0] rfl rfl rfl rfl ?_)
      exact Tk_backS (l1.set x1.toNat (Seg.mk s1.At s1.Len false), wi (x1 + (1 : Int)), v2) h [0, 2, 10, 12, 43, 44] [0, 1, 2] [0] rfl rfl rfl rfl rfl
     ·replace h := br_f hg5 h
      refine Tk_condF (congrArg (fun b => some (Value.bool b)) hg5) ?_
      refine Tk_exit _ rfl ?_
      refine Tk_seq (Tk_region (Tops_step rfl (OpT_move rfl rfl rfl rfl) ?_))
      refine Tops_step rfl (OpT_move rfl rfl rfl rfl) ?_
      obtain ⟨gather1, hx5, h⟩ := ob_e h
      refine Tops_exP rfl (OpT_callB [2] [3, 4, 2, 5] (w_seg_Gather hx5) [0, 1] rfl rfl rfl rfl rfl callee54 rfl rfl rfl rfl rfl rfl (bor_cons (bor_shr 0 rfl) (bor_cons (bor_row 2 rfl rfl) bor_nil)) (by rintro _ _ _ ⟨_, rfl, rfl, rfl⟩; exact ⟨rfl, (ri_cons (ri_cells _ _ _) (ri_cons (ri_rows rfl _ _ _ _ _) (ri_cons (ri_row (S := u8S) rfl _ _) ri_nil)))⟩)) ?_
      rintro _ ⟨_, _, _, ⟨v3, rfl, rfl, rfl⟩, rfl⟩
      refine Tops_step rfl (OpT_move rfl rfl rfl rfl) ?_
      refine Tops_step rfl (OpT_extract rfl rfl rfl rfl rfl) ?_
      refine Tops_step rfl (OpT_extract rfl rfl rfl rfl rfl) ?_
      refine Tops_step rfl (OpT_assign rfl rfl rfl rfl) ?_
      refine Tops_step rfl (OpT_assign rfl rfl rfl rfl) ?_
      refine Tops_nil (Tk_wkS (fr' := [(2, some (vU32 written)), (12, some (vU64 total1.2)), (14, some (v3)), (15, some (vI gather1.2))]) (own' := [some (cellsR b_m 83 [vm1, vm2]), some (rowsX u8S true vm2 vsm1 m.b none), some (rowS u8S v3 gather1.1)]) (shr' := [Fact.sl RegionS vm1 m.l]) [2, 12, 14, 15] [0, 1, 3] [0] rfl rfl rfl rfl ?_)
      refine Tk_seq (Tk_seq (Tk_region (Tops_step rfl (OpT_move rfl rfl rfl rfl) ?_)))
      refine Tops_step rfl (OpT_bin rfl rfl rfl rfl rfl (bin_neq_i (a := gather1.2) (b := (0 : Int)))) ?_
      refine Tops_nil (Tk_wkS (fr' := [(2, some (vU32 written)), (12, some (vU64 total1.2)), (14, some (v3)), (15, some (vI gather1.2)), (59, some (vB (gather1.2 != (0 : Int))))]) (own' := [some (cellsR b_m 83 [vm1, vm2]), some (rowsX u8S true vm2 vsm1 m.b none), some (rowS u8S v3 gather1.1)]) (shr' := [Fact.sl RegionS vm1 m.l]) [2, 12, 14, 15, 59] [0, 1, 2] [0] rfl rfl rfl rfl ?_)
      rcases Bool.eq_false_or_eq_true (gather1.2 != (0 : Int)) with hg6 | hg6
      ·replace h := br_t hg6 h
       refine Tk_condT (congrArg (fun b => some (Value.bool b)) hg6) ?_
       refine Tk_seq (Tk_region (Tops_step rfl (OpT_move rfl rfl rfl rfl) ?_))
       refine Tops_step rfl (OpT_assign rfl rfl rfl rfl) ?_
       refine Tops_step rfl (OpT_assign rfl rfl rfl rfl) ?_
       refine Tops_step rfl (OpT_assign rfl rfl rfl rfl) ?_
       refine Tops_nil (Tk_wkS (fr' := [(6, some (.slice none 0 0)), (7, some (vU8 (0 : UInt8))), (8, some (vI gather1.2))]) (own' := [some (cellsR b_m 83 [vm1, vm2]), some (rowsX u8S true vm2 vsm1 m.b none)]) (shr' := [Fact.sl RegionS vm1 m.l]) [6, 7, 8] [0, 1] [0] rfl rfl rfl rfl ?_)
       refine Tk_nilfact u8S ?_
       obtain rfl := Option.some.inj h
       exact Tk_retV rfl rfl (resA (vs := [.slice none 0 0, vU8 (0 : UInt8), vI gather1.2]) rfl ⟨rfl, rfl, rfl, trivial⟩) [0, 1] [1] rfl rfl rfl ⟨(.slice none 0 0), rfl, rfl, rfl⟩
      ·replace h := br_f hg6 h
       refine Tk_condF (congrArg (fun b => some (Value.bool b)) hg6) ?_
       refine Tk_skip (Tk_seq (Tk_region (Tops_step rfl (OpT_move rfl rfl rfl rfl) ?_)))
       refine Tops_step rfl (OpT_move rfl rfl rfl rfl) ?_
       refine Tops_step rfl (OpT_bin rfl rfl rfl rfl rfl (bin_sub_u64 (a := total1.2) (b := (1 : UInt64)))) ?_
       obtain ⟨y1, hx6, h⟩ := ob_e h
       refine Tops_step rfl (OpT_idxO rfl rfl rfl rfl rfl slF35 (i := 2) rfl hx6) ?_
       refine Tops_step rfl (OpT_loadO (S := u8S) rfl rfl rfl rfl rfl tyF5 (i := 2) rfl hx6 rfl rfl) ?_
       refine Tops_step rfl (OpT_assign rfl rfl rfl rfl) ?_
       refine Tops_nil (Tk_wkS (fr' := [(2, some (vU32 written)), (14, some (v3)), (16, some (vU8 y1))]) (own' := [some (cellsR b_m 83 [vm1, vm2]), some (rowsX u8S true vm2 vsm1 m.b none), some (rowS u8S v3 gather1.1)]) (shr' := [Fact.sl RegionS vm1 m.l]) [2, 14, 16] [0, 1, 2] [0] rfl rfl rfl rfl ?_)
       refine Tk_seq (Tk_seq (Tk_region (Tops_step rfl (OpT_move rfl rfl rfl rfl) ?_)))
       refine Tops_step rfl (OpT_bin rfl rfl rfl rfl rfl (bin_neq_u8 (a := y1) (b := (0 : UInt8)))) ?_
       refine Tops_nil (Tk_wkS (fr' := [(2, some (vU32 written)), (14, some (v3)), (16, some (vU8 y1)), (67, some (vB (y1 != (0 : UInt8))))]) (own' := [some (cellsR b_m 83 [vm1, vm2]), some (rowsX u8S true vm2 vsm1 m.b none), some (rowS u8S v3 gather1.1)]) (shr' := [Fact.sl RegionS vm1 m.l]) [2, 14, 16, 67] [0, 1, 2] [0] rfl rfl rfl rfl ?_)
       rcases Bool.eq_false_or_eq_true (y1 != (0 : UInt8)) with hg7 | hg7
       ·replace h := br_t hg7 h
        refine Tk_condT (congrArg (fun b => some (Value.bool b)) hg7) ?_
        refine Tk_seq (Tk_region (Tops_step rfl (OpT_move rfl rfl rfl rfl) ?_))
        refine Tops_step rfl (OpT_assign rfl rfl rfl rfl) ?_
        refine Tops_step rfl (OpT_assign rfl rfl rfl rfl) ?_
        refine Tops_step rfl (OpT_assign rfl rfl rfl rfl) ?_
        refine Tops_nil (Tk_wkS (fr' := [(6, some (.slice none 0 0)), (7, some (vU8 y1)), (8, some (vI (0 : Int)))]) (own' := [some (cellsR b_m 83 [vm1, vm2]), some (rowsX u8S true vm2 vsm1 m.b none)]) (shr' := [Fact.sl RegionS vm1 m.l]) [6, 7, 8] [0, 1] [0] rfl rfl rfl rfl ?_)
        refine Tk_nilfact u8S ?_
        obtain rfl := Option.some.inj h
        exact Tk_retV rfl rfl (resA (vs := [.slice none 0 0, vU8 y1, vI (0 : Int)]) rfl ⟨rfl, rfl, rfl, trivial⟩) [0, 1] [1] rfl rfl rfl ⟨(.slice none 0 0), rfl, rfl, rfl⟩
       ·replace h := br_f hg7 h
        refine Tk_condF (congrArg (fun b => some (Value.bool b)) hg7) ?_
        refine Tk_skip (Tk_seq (Tk_region (Tops_step rfl (OpT_move rfl rfl rfl rfl) ?_)))
        refine Tops_step rfl (OpT_move rfl rfl rfl rfl) ?_
        refine Tops_step rfl (OpT_bin rfl rfl rfl rfl rfl (bin_sub_u32 (a := written) (b := (1 : UInt32)))) ?_
        refine Tops_step rfl (OpT_move rfl rfl rfl rfl) ?_
        refine Tops_step rfl (OpT_bin rfl rfl rfl rfl rfl (bin_sub_u32 (a := written) (b := (1 : UInt32)))) ?_
        refine Tops_retire (i := 2) rfl ?_
        obtain ⟨hc1, h⟩ := chk_e h
        refine Tops_ex rfl (OpT_sliceHM (m := ((written - (1 : UInt32)).toNat : Int)) (q := ((written - (1 : UInt32)).toNat : Int)) rfl rfl rfl rfl rfl rfl slF35 (i := 1) rfl hc1) fun v4 => ?_
        refine Tops_step rfl (OpT_move rfl rfl rfl rfl) ?_
        refine Tops_step rfl (OpT_assign rfl rfl rfl rfl) ?_
        refine Tops_step rfl (OpT_assign rfl rfl rfl rfl) ?_
        refine Tops_step rfl (OpT_assign rfl rfl rfl rfl) ?_
        refine Tops_nil (Tk_wkS (fr' := [(6, some (v4)), (7, some (vU8 y1)), (8, some (vI (0 : Int)))]) (own' := [some (cellsR b_m 83 [vm1, vm2]), some (rowsX u8S true vm2 vsm1 m.b none)]) (shr' := [Fact.sl RegionS vm1 m.l, Fact.sl u8S v4 (sub gather1.1 (0 : Int) ((written - (1 : UInt32)).toNat : Int))]) [6, 7, 8] [0, 1] [0, 2] rfl rfl rfl rfl ?_)
        obtain rfl := Option.some.inj h
        exact Tk_retV rfl rfl (resA (vs := [v4, vU8 y1, vI (0 : Int)]) rfl ⟨rfl, rfl, rfl, trivial⟩) [0, 1] [1] rfl rfl rfl ⟨v4, rfl, rfl, rfl⟩

set_option maxRecDepth 100000 in
set_option maxHeartbeats 4000000 in
theorem w_ref_Check02 {l : List Region} {vl1 : Value} {r : Int} (h : ref_Check02 l = some r) :
  Ctr Try.prog 55 #[vl1] [] [Fact.sl RegionS vl1 l]
   (fun rv own shr => rv = vI r ∧ own = [] ∧ shr = []) := by
 unfold ref_Check02 at h
 refine Ctr.mk (args := [vl1]) Try.func55 rfl rfl (fun R0 w0 B => ?_)
 refine Tk_seq (Tk_region (Tops_step rfl (OpT_assign rfl rfl rfl rfl) ?_))
 refine Tops_nil (Tk_wkS (fr' := [(0, some (vl1))]) (own' := []) (shr' := [Fact.sl RegionS vl1 l]) [0] [] [0] rfl rfl rfl rfl ?_)
 refine Tk_seq (Tk_seq (Tk_region (Tops_step rfl (OpT_move rfl rfl rfl rfl) ?_)))
 refine Tops_step rfl (OpT_lenS rfl rfl rfl rfl Try.underlying45 (i := 0) rfl) ?_
 refine Tops_step rfl (OpT_bin rfl rfl rfl rfl rfl (bin_gtr_i (a := len l) (b := (16 : Int)))) ?_
 refine Tops_nil (Tk_wkS (fr' := [(0, some (vl1)), (7, some (vB (decide ((len l) > (16 : Int)))))]) (own' := []) (shr' := [Fact.sl RegionS vl1 l]) [0, 7] [] [0] rfl rfl rfl rfl ?_)
 rcases Bool.eq_false_or_eq_true (decide ((len l) > (16 : Int))) with hg1 | hg1
 ·replace h := br_t hg1 h
  refine Tk_condT (congrArg (fun b => some (Value.bool b)) hg1) ?_
  refine Tk_seq (Tk_region (Tops_step rfl (OpT_assign rfl rfl rfl rfl) ?_))
  refine Tops_nil (Tk_wkS (fr' := [(2, some (vI (2 : Int)))]) (own' := []) (shr' := []) [2] [] [] rfl rfl rfl rfl ?_)
  obtain rfl := Option.some.inj h
  exact Tk_retV rfl rfl (resA (vs := [vI (2 : Int)]) rfl ⟨rfl, trivial⟩) [] [] rfl rfl rfl ⟨rfl, rfl, rfl⟩
 ·replace h := br_f hg1 h
  refine Tk_condF (congrArg (fun b => some (Value.bool b)) hg1) ?_
  refine Tk_skip (Tk_seq (Tk_region (Tops_step rfl (OpT_assign rfl rfl rfl rfl) ?_)))
  refine Tops_nil (Tk_wkS (fr' := [(0, some (vl1)), (3, some (vU64 (0 : UInt64)))]) (own' := []) (shr' := [Fact.sl RegionS vl1 l]) [0, 3] [] [0] rfl rfl rfl rfl ?_)
  refine Tk_seq (Tk_seq (Tk_region (Tops_step rfl (OpT_assign rfl rfl rfl rfl) ?_)))
  refine Tops_nil (Tk_block (Tk_loopS (σ := UInt64 × Int) [0, 3, 4] [] [0] (fun s => ⟨[(0, some (vl1)), (3, some (vU64 s.1)), (4, some (vI s.2))], [], [Fact.sl RegionS vl1 l]⟩) (fun nf1 s => ref_Check02L1 l nf1 s.1 s.2 = some r) fuel ((0 : UInt64), (0 : Int)) h rfl rfl rfl rfl rfl (fun s h => by cases h) ?_))
  rintro nf1 ⟨sum1, i1⟩ h
  replace h : ref_Check02L1B l (ref_Check02L1 l nf1) sum1 i1 = some r := h
  unfold ref_Check02L1B at h
  refine Tk_seq (Tk_seq (Tk_region (Tops_step rfl (OpT_move rfl rfl rfl rfl) ?_)))
  refine Tops_step rfl (OpT_move rfl rfl rfl rfl) ?_
  refine Tops_step rfl (OpT_lenS rfl rfl rfl rfl Try.underlying45 (i := 0) rfl) ?_
  refine Tops_step rfl (OpT_bin rfl rfl rfl rfl rfl (bin_lss_i (a := i1) (b := len l))) ?_
  refine Tops_nil (Tk_wkS (fr' := [(0, some (vl1)), (3, some (vU64 sum1)), (4, some (vI i1)), (11, some (vB (decide (i1 < (len l)))))]) (own' := []) (shr' := [Fact.sl RegionS vl1 l]) [0, 3, 4, 11] [] [0] rfl rfl rfl rfl ?_)
  rcases Bool.eq_false_or_eq_true (decide (i1 < (len l))) with hg2 | hg2
  ·replace h := br_t hg2 h
   refine Tk_condT (congrArg (fun b => some (Value.bool b)) hg2) ?_
   refine Tk_skip (Tk_seq (Tk_block (Tk_seq (Tk_seq (Tk_drawT (by kernel_rfl) ?_)))))
   refine TA_tb [0, 0, 3, 7, 15, 31, 63, 127, 127, 511, 1023, 2047, 4095, 8191, 16383, 32767, 32767, 131071, 262143, 524287, 32767, 32767, 3178495, 7372799, 15761407, 32538623, 67108863, 32767, 32767, 402685951, 939556863, 2013298687, 4294967295, 8589934591] (by kernel_rfl) fun htb => ?_
   refine TA_wkS (fr' := [(0, some (vl1)), (3, some (vU64 sum1)), (4, some (vI i1))]) (own' := []) (shr' := [Fact.sl RegionS vl1 l]) [0, 3, 4] [] [0] rfl rfl rfl rfl ?_
   refine TA_seg (lo := 0) (hi := 2) htb rfl rfl (by kernel_rfl) (fun c L a w => Sat c ⟨[(0, some (vl1)), (3, some (vU64 sum1)), (4, some (vI i1)), (14, bif L 0 then some (vl1) else none), (15, bif L 1 then some (vI i1) else none)], [], [Fact.sl RegionS vl1 l]⟩ a w) [([], []), ([], [])] rfl (by kernel_rfl) ?_ (steps_cons ?_ (steps_cons ?_ (steps_nil))) ?_
   ·intro a w hs
    exact hs.startF [14, 15] [] [0] rfl rfl rfl rfl
   ·intro L a w hv K Q hK
    have hs := hv
    refine wpOp_go rfl rfl hs (OpT_move rfl rfl rfl rfl) ?_
    rintro _ rfl a' w' hs'
    exact hK a' w' (hs'.putF (i := 3) rfl [] [0] rfl rfl rfl rfl)
   ·intro L a w hv K Q hK
    have hs := hv
    refine wpOp_go rfl rfl hs (OpT_move rfl rfl rfl rfl) ?_
    rintro _ rfl a' w' hs'
    exact hK a' w' (hs'.putF (i := 4) rfl [] [0] rfl rfl rfl rfl)
   ·intro L a w hL hv
    rw [allTrue hL] at hv
    have hs := hv
    refine (show TA _ _ _ 2 ⟨[(0, some (vl1)), (3, some (vU64 sum1)), (4, some (vI i1)), (14, some (vl1)), (15, some (vI i1))], [], [Fact.sl RegionS vl1 l]⟩ from ?_) a w (hs.wkS [0, 3, 4, 14, 15] [] [0] rfl rfl rfl rfl)
    clear hs hL
    obtain ⟨r1, hx1, h⟩ := ob_e h
    refine TA_ex htb (by kernel_rfl) rfl rfl (OpT_idxS rfl rfl rfl rfl rfl slF45 (i := 0) rfl hx1) fun p1 => ?_
    refine TA_ex htb (by kernel_rfl) rfl rfl (OpT_fieldP (S' := u64S) (y := r1.Len) rfl rfl rfl rfl fldF57x1 (i := 1) rfl (by intro h cs hr; subst hr; rfl)) fun p2 => ?_
    refine TA_step htb (by kernel_rfl) rfl rfl (OpT_loadP rfl rfl rfl rfl tyF29 (i := 2) rfl rfl) ?_
    refine TA_step htb (by kernel_rfl) rfl rfl (OpT_bin rfl rfl rfl rfl rfl (bin_eql_u64 (a := r1.Len) (b := (0 : UInt64)))) ?_
    refine TA_step htb (by kernel_rfl) rfl rfl (OpT_move rfl rfl rfl rfl) ?_
    refine TA_wkS (fr' := [(0, some (vl1)), (3, some (vU64 sum1)), (4, some (vI i1)), (20, some (vB (r1.Len == (0 : UInt64))))]) (own' := []) (shr' := [Fact.sl RegionS vl1 l]) [0, 3, 4, 20] [] [0] rfl rfl rfl rfl ?_
    rcases Bool.eq_false_or_eq_true (r1.Len == (0 : UInt64)) with hg3 | hg3
    ·replace h := br_t hg3 h
     refine TA_seg (lo := 7) (hi := 9) htb rfl rfl (by kernel_rfl) (fun c L a w => Sat c ⟨[(0, some (vl1)), (3, some (vU64 sum1)), (4, some (vI i1)), (20, some (vB (r1.Len == (0 : UInt64)))), (21, bif L 7 then some (undef) else none), (22, bif L 8 then some (undef) else none)], [], [Fact.sl RegionS vl1 l]⟩ a w) [([], []), ([], [])] rfl (by kernel_rfl) ?_ (steps_cons ?_ (steps_cons ?_ (steps_nil))) ?_
     ·intro a w hs
      exact hs.startF [21, 22] [] [0] rfl rfl rfl rfl
     ·intro L a w hv K Q hK
      have hs := hv
      refine wpOp_no rfl rfl rfl hs (congrArg (fun b => some (Value.bool b)) hg3) rfl rfl ?_
      intro a' w' hs'
      exact hK a' w' (hs'.putF (i := 4) rfl [] [0] rfl rfl rfl rfl)
     ·intro L a w hv K Q hK
      have hs := hv
      refine wpOp_no rfl rfl rfl hs (congrArg (fun b => some (Value.bool b)) hg3) rfl rfl ?_
      intro a' w' hs'
      exact hK a' w' (hs'.putF (i := 5) rfl [] [0] rfl rfl rfl rfl)
     ·intro L a w hL hv
      rw [allTrue hL] at hv
      have hs := hv
      refine (show TA _ _ _ 9 ⟨[(0, some (vl1)), (3, some (vU64 sum1)), (4, some (vI i1)), (20, some (vB (r1.Len == (0 : UInt64)))), (21, some (undef)), (22, some (undef))], [], [Fact.sl RegionS vl1 l]⟩ from ?_) a w (hs.wkS [0, 3, 4, 20, 21, 22] [] [0] rfl rfl rfl rfl)
      clear hs hL
      refine TA_no htb (by kernel_rfl) rfl rfl rfl (congrArg (fun b => some (Value.bool b)) hg3) rfl rfl ?_
      refine TA_no htb (by kernel_rfl) rfl rfl rfl (congrArg (fun b => some (Value.bool b)) hg3) rfl rfl ?_
      refine TA_no htb (by kernel_rfl) rfl rfl rfl (congrArg (fun b => some (Value.bool b)) hg3) rfl rfl ?_
      refine TA_no htb (by kernel_rfl) rfl rfl rfl (congrArg (fun b => some (Value.bool b)) hg3) rfl rfl ?_
      refine TA_step htb (by kernel_rfl) rfl rfl (OpT_pickT rfl rfl rfl (congrArg (fun b => some (Value.bool b)) hg3) rfl) ?_
      refine TA_step htb (by kernel_rfl) rfl rfl (OpT_move rfl rfl rfl rfl) ?_
      refine TA_wkS (fr' := [(0, some (vl1)), (3, some (vU64 sum1)), (4, some (vI i1)), (28, some (vB true))]) (own' := []) (shr' := [Fact.sl RegionS vl1 l]) [0, 3, 4, 28] [] [0] rfl rfl rfl rfl ?_
      refine TA_seg (lo := 15) (hi := 32) htb rfl rfl (by kernel_rfl) (fun c L a w => Sat c ⟨[(0, some (vl1)), (3, some (vU64 sum1)), (4, some (vI i1)), (28, some (vB true)), (29, bif L 15 then some (undef) else none), (30, bif L 16 then some (undef) else none), (31, bif L 17 then some (undef) else none), (32, bif L 18 then some (undef) else none), (33, bif L 19 then some (undef) else none), (34, bif L 20 then some (undef) else none), (35, bif L 21 then some (undef) else none), (36, bif L 22 then some (undef) else none), (37, bif L 23 then some (undef) else none), (38, bif L 24 then some (undef) else none), (39, bif L 25 then some (undef) else none), (40, bif L 26 then some (undef) else none), (41, bif L 27 then some (undef) else none), (42, bif L 28 then some (undef) else none), (43, bif L 29 then some (undef) else none), (44, bif L 30 then some (undef) else none), (45, bif L 31 then some (undef) else none)], [], [Fact.sl RegionS vl1 l]⟩ a w) [([], [17, 18, 19, 26]), ([], [17, 18, 19, 26]), ([15, 16], [18, 19, 26]), ([15, 16, 17], [19, 26]), ([15, 16, 17, 18], [26]), ([], [22, 23, 24, 25, 26]), ([], [22, 23, 24, 25, 26]), ([20, 21], [23, 24, 25, 26]), ([20, 21, 22], [24, 25, 26]), ([20, 21, 22, 23], [25, 26]), ([20, 21, 22, 23, 24], [26]), ([15, 16, 17, 18, 19, 20, 21, 22, 23, 24, 25], []), ([], [29, 30, 31]), ([], [29, 30, 31]), ([27, 28], [30, 31]), ([27, 28, 29], [31]), ([27, 28, 29, 30], [])] rfl (by kernel_rfl) ?_ (steps_cons ?_ (steps_cons ?_ (steps_cons ?_ (steps_cons ?_ (steps_cons ?_ (steps_cons ?_ (steps_cons ?_ (steps_cons ?_ (steps_cons ?_ (steps_cons ?_ (steps_cons ?_ (steps_cons ?_ (steps_cons ?_ (steps_cons ?_ (steps_cons ?_ (steps_cons ?_ (steps_cons ?_ (steps_nil)))))))))))))))))) ?_
      ·intro a w hs
       exact hs.startF [29, 30, 31, 32, 33, 34, 35, 36, 37, 38, 39, 40, 41, 42, 43, 44, 45] [] [0] rfl rfl rfl rfl
      ·intro L a w hv K Q hK
       have hs := hv
       refine wpOp_no rfl rfl rfl hs rfl rfl rfl ?_
       intro a' w' hs'
       exact hK a' w' (hs'.putF (i := 4) rfl [] [0] rfl rfl rfl rfl)
      ·intro L a w hv K Q hK
       have hs := hv
       refine wpOp_no rfl rfl rfl hs rfl rfl rfl ?_
       intro a' w' hs'
       exact hK a' w' (hs'.putF (i := 5) rfl [] [0] rfl rfl rfl rfl)
      ·intro L a w hv K Q hK
       have hs := hv
       refine wpOp_no rfl rfl rfl hs rfl rfl rfl ?_
       intro a' w' hs'
       exact hK a' w' (hs'.putF (i := 6) rfl [] [0] rfl rfl rfl rfl)
      ·intro L a w hv K Q hK
       have hs := hv
       refine wpOp_no rfl rfl rfl hs rfl rfl rfl ?_
       intro a' w' hs'
       exact hK a' w' (hs'.putF (i := 7) rfl [] [0] rfl rfl rfl rfl)
      ·intro L a w hv K Q hK
       have hs := hv
       refine wpOp_no rfl rfl rfl hs rfl rfl rfl ?_
       intro a' w' hs'
       exact hK a' w' (hs'.putF (i := 8) rfl [] [0] rfl rfl rfl rfl)
      ·intro L a w hv K Q hK
       have hs := hv
       refine wpOp_no rfl rfl rfl hs rfl rfl rfl ?_
       intro a' w' hs'
       exact hK a' w' (hs'.putF (i := 9) rfl [] [0] rfl rfl rfl rfl)
      ·intro L a w hv K Q hK
       have hs := hv
       refine wpOp_no rfl rfl rfl hs rfl rfl rfl ?_
       intro a' w' hs'
       exact hK a' w' (hs'.putF (i := 10) rfl [] [0] rfl rfl rfl rfl)
      ·intro L a w hv K Q hK
       have hs := hv
       refine wpOp_no rfl rfl rfl hs rfl rfl rfl ?_
       intro a' w' hs'
       exact hK a' w' (hs'.putF (i := 11) rfl [] [0] rfl rfl rfl rfl)
      ·intro L a w hv K Q hK
       have hs := hv
       refine wpOp_no rfl rfl rfl hs rfl rfl rfl ?_
       intro a' w' hs'
       exact hK a' w' (hs'.putF (i := 12) rfl [] [0] rfl rfl rfl rfl)
      ·intro L a w hv K Q hK
       have hs := hv
       refine wpOp_no rfl rfl rfl hs rfl rfl rfl ?_
       intro a' w' hs'
       exact hK a' w' (hs'.putF (i := 13) rfl [] [0] rfl rfl rfl rfl)
      ·intro L a w hv K Q hK
       have hs := hv
       refine wpOp_no rfl rfl rfl hs rfl rfl rfl ?_
       intro a' w' hs'
       exact hK a' w' (hs'.putF (i := 14) rfl [] [0] rfl rfl rfl rfl)
      ·intro L a w hv K Q hK
       have hs := hv
       refine wpOp_no rfl rfl rfl hs rfl rfl rfl ?_
       intro a' w' hs'
       exact hK a' w' (hs'.putF (i := 15) rfl [] [0] rfl rfl rfl rfl)
      ·intro L a w hv K Q hK
       have hs := hv
       refine wpOp_no rfl rfl rfl hs rfl rfl rfl ?_
       intro a' w' hs'
       exact hK a' w' (hs'.putF (i := 16) rfl [] [0] rfl rfl rfl rfl)
      ·intro L a w hv K Q hK
       have hs := hv
       refine wpOp_no rfl rfl rfl hs rfl rfl rfl ?_
       intro a' w' hs'
       exact hK a' w' (hs'.putF (i := 17) rfl [] [0] rfl rfl rfl rfl)
      ·intro L a w hv K Q hK
       have hs := hv
       refine wpOp_no rfl rfl rfl hs rfl rfl rfl ?_
       intro a' w' hs'
       exact hK a' w' (hs'.putF (i := 18) rfl [] [0] rfl rfl rfl rfl)
      ·intro L a w hv K Q hK
       have hs := hv
       refine wpOp_no rfl rfl rfl hs rfl rfl rfl ?_
       intro a' w' hs'
       exact hK a' w' (hs'.putF (i := 19) rfl [] [0] rfl rfl rfl rfl)
      ·intro L a w hv K Q hK
       have hs := hv
       refine wpOp_no rfl rfl rfl hs rfl rfl rfl ?_
       intro a' w' hs'
       exact hK a' w' (hs'.putF (i := 20) rfl [] [0] rfl rfl rfl rfl)
      ·intro L a w hL hv
       rw [allTrue hL] at hv
       have hs := hv
       refine (show TA _ _ _ 32 ⟨[(0, some (vl1)), (3, some (vU64 sum1)), (4, some (vI i1)), (28, some (vB true)), (40, some (undef)), (45, some (undef))], [], [Fact.sl RegionS vl1 l]⟩ from ?_) a w (hs.wkS [0, 3, 4, 28, 40, 45] [] [0] rfl rfl rfl rfl)
       clear hs hL
       refine TA_no htb (by kernel_rfl) rfl rfl rfl rfl rfl rfl ?_
       refine TA_step htb (by kernel_rfl) rfl rfl (OpT_pickT rfl rfl rfl rfl rfl) ?_
       refine TA_end rfl ?_
       refine Tk_wkS (fr' := [(0, some (vl1)), (3, some (vU64 sum1)), (4, some (vI i1)), (47, some (vB true))]) (own' := []) (shr' := [Fact.sl RegionS vl1 l]) [0, 3, 4, 47] [] [0] rfl rfl rfl rfl ?_
       refine Tk_condT rfl ?_
       refine Tk_seq (Tk_region (Tops_step rfl (OpT_assign rfl rfl rfl rfl) ?_))
       refine Tops_nil (Tk_wkS (fr' := [(2, some (vI (2 : Int)))]) (own' := []) (shr' := []) [2] [] [] rfl rfl rfl rfl ?_)
       obtain rfl := Option.some.inj h
       exact Tk_retV rfl rfl (resA (vs := [vI (2 : Int)]) rfl ⟨rfl, trivial⟩) [] [] rfl rfl rfl ⟨rfl, rfl, rfl⟩
    ·replace h := br_f hg3 h
     refine TA_seg (lo := 7) (hi := 9) htb rfl rfl (by kernel_rfl) (fun c L a w => Sat c ⟨[(0, some (vl1)), (3, some (vU64 sum1)), (4, some (vI i1)), (20, some (vB (r1.Len == (0 : UInt64)))), (21, bif L 7 then some (vl1) else none), (22, bif L 8 then some (vI i1) else none)], [], [Fact.sl RegionS vl1 l]⟩ a w) [([], []), ([], [])] rfl (by kernel_rfl) ?_ (steps_cons ?_ (steps_cons ?_ (steps_nil))) ?_
     ·intro a w hs
      exact hs.startF [21, 22] [] [0] rfl rfl rfl rfl
     ·intro L a w hv K Q hK
      have hs := hv
      refine wpOp_yes rfl rfl rfl hs (congrArg (fun b => some (Value.bool b)) hg3) (OpT_move rfl rfl rfl rfl) ?_
      rintro _ rfl a' w' hs'
      exact hK a' w' (hs'.putF (i := 4) rfl [] [0] rfl rfl rfl rfl)
     ·intro L a w hv K Q hK
      have hs := hv
      refine wpOp_yes rfl rfl rfl hs (congrArg (fun b => some (Value.bool b)) hg3) (OpT_move rfl rfl rfl rfl) ?_
      rintro _ rfl a' w' hs'
      exact hK a' w' (hs'.putF (i := 5) rfl [] [0] rfl rfl rfl rfl)
     ·intro L a w hL hv
      rw [allTrue hL] at hv
      have hs := hv
      refine (show TA _ _ _ 9 ⟨[(0, some (vl1)), (3, some (vU64 sum1)), (4, some (vI i1)), (20, some (vB (r1.Len == (0 : UInt64)))), (21, some (vl1)), (22, some (vI i1))], [], [Fact.sl RegionS vl1 l]⟩ from ?_) a w (hs.wkS [0, 3, 4, 20, 21, 22] [] [0] rfl rfl rfl rfl)
      clear hs hL
      obtain ⟨r2, hx2, h⟩ := ob_e h
      refine TA_yes htb (by kernel_rfl) rfl rfl rfl (congrArg (fun b => some (Value.bool b)) hg3) (OpT_idxS rfl rfl rfl rfl rfl slF45 (i := 0) rfl hx2) ?_
      rintro _ ⟨p3, rfl⟩
      refine TA_yes htb (by kernel_rfl) rfl rfl rfl (congrArg (fun b => some (Value.bool b)) hg3) (OpT_fieldP (S' := u64S) (y := r2.Len) rfl rfl rfl rfl fldF57x1 (i := 1) rfl (by intro h cs hr; subst hr; rfl)) ?_
      rintro _ ⟨p4, rfl⟩
      refine TA_yes htb (by kernel_rfl) rfl rfl rfl (congrArg (fun b => some (Value.bool b)) hg3) (OpT_loadP rfl rfl rfl rfl tyF29 (i := 2) rfl rfl) ?_
      rintro _ rfl
      refine TA_yes htb (by kernel_rfl) rfl rfl rfl (congrArg (fun b => some (Value.bool b)) hg3) (OpT_bin rfl rfl rfl rfl rfl (bin_gtr_u64 (a := r2.Len) (b := (1048576 : UInt64)))) ?_
      rintro _ rfl
      refine TA_step htb (by kernel_rfl) rfl rfl (OpT_pickF rfl rfl rfl (congrArg (fun b => some (Value.bool b)) hg3) rfl) ?_
      refine TA_step htb (by kernel_rfl) rfl rfl (OpT_move rfl rfl rfl rfl) ?_
      refine TA_wkS (fr' := [(0, some (vl1)), (3, some (vU64 sum1)), (4, some (vI i1)), (28, some (vB (decide (r2.Len > (1048576 : UInt64)))))]) (own' := []) (shr' := [Fact.sl RegionS vl1 l]) [0, 3, 4, 28] [] [0] rfl rfl rfl rfl ?_
      rcases Bool.eq_false_or_eq_true (decide (r2.Len > (1048576 : UInt64))) with hg4 | hg4
      ·replace h := br_t hg4 h
       refine TA_seg (lo := 15) (hi := 32) htb rfl rfl (by kernel_rfl) (fun c L a w => Sat c ⟨[(0, some (vl1)), (3, some (vU64 sum1)), (4, some (vI i1)), (28, some (vB (decide (r2.Len > (1048576 : UInt64))))), (29, bif L 15 then some (undef) else none), (30, bif L 16 then some (undef) else none), (31, bif L 17 then some (undef) else none), (32, bif L 18 then some (undef) else none), (33, bif L 19 then some (undef) else none), (34, bif L 20 then some (undef) else none), (35, bif L 21 then some (undef) else none), (36, bif L 22 then some (undef) else none), (37, bif L 23 then some (undef) else none), (38, bif L 24 then some (undef) else none), (39, bif L 25 then some (undef) else none), (40, bif L 26 then some (undef) else none), (41, bif L 27 then some (undef) else none), (42, bif L 28 then some (undef) else none), (43, bif L 29 then some (undef) else none), (44, bif L 30 then some (undef) else none), (45, bif L 31 then some (undef) else none)], [], [Fact.sl RegionS vl1 l]⟩ a w) [([], [17, 18, 19, 26]), ([], [17, 18, 19, 26]), ([15, 16], [18, 19, 26]), ([15, 16, 17], [19, 26]), ([15, 16, 17, 18], [26]), ([], [22, 23, 24, 25, 26]), ([], [22, 23, 24, 25, 26]), ([20, 21], [23, 24, 25, 26]), ([20, 21, 22], [24, 25, 26]), ([20, 21, 22, 23], [25, 26]), ([20, 21, 22, 23, 24], [26]), ([15, 16, 17, 18, 19, 20, 21, 22, 23, 24, 25], []), ([], [29, 30, 31]), ([], [29, 30, 31]), ([27, 28], [30, 31]), ([27, 28, 29], [31]), ([27, 28, 29, 30], [])] rfl (by kernel_rfl) ?_ (steps_cons ?_ (steps_cons ?_ (steps_cons ?_ (steps_cons ?_ (steps_cons ?_ (steps_cons ?_ (steps_cons ?_ (steps_cons ?_ (steps_cons ?_ (steps_cons ?_ (steps_cons ?_ (steps_cons ?_ (steps_cons ?_ (steps_cons ?_ (steps_cons ?_ (steps_cons ?_ (steps_cons ?_ (steps_nil)))))))))))))))))) ?_
       ·intro a w hs
        exact hs.startF [29, 30, 31, 32, 33, 34, 35, 36, 37, 38, 39, 40, 41, 42, 43, 44, 45] [] [0] rfl rfl rfl rfl
       ·intro L a w hv K Q hK
        have hs := hv
        refine wpOp_no rfl rfl rfl hs (congrArg (fun b => some (Value.bool b)) hg4) rfl rfl ?_
        intro a' w' hs'
        exact hK a' w' (hs'.putF (i := 4) rfl [] [0] rfl rfl rfl rfl)
       ·intro L a w hv K Q hK
        have hs := hv
        refine wpOp_no rfl rfl rfl hs (congrArg (fun b => some (Value.bool b)) hg4) rfl rfl ?_
        intro a' w' hs'
        exact hK a' w' (hs'.putF (i := 5) rfl [] [0] rfl rfl rfl rfl)
       ·intro L a w hv K Q hK
        have hs := hv
        refine wpOp_no rfl rfl rfl hs (congrArg (fun b => some (Value.bool b)) hg4) rfl rfl ?_
        intro a' w' hs'
        exact hK a' w' (hs'.putF (i := 6) rfl [] [0] rfl rfl rfl rfl)
       ·intro L a w hv K Q hK
        have hs := hv
        refine wpOp_no rfl rfl rfl hs (congrArg (fun b => some (Value.bool b)) hg4) rfl rfl ?_
        intro a' w' hs'
        exact hK a' w' (hs'.putF (i := 7) rfl [] [0] rfl rfl rfl rfl)
       ·intro L a w hv K Q hK
        have hs := hv
        refine wpOp_no rfl rfl rfl hs (congrArg (fun b => some (Value.bool b)) hg4) rfl rfl ?_
        intro a' w' hs'
        exact hK a' w' (hs'.putF (i := 8) rfl [] [0] rfl rfl rfl rfl)
       ·intro L a w hv K Q hK
        have hs := hv
        refine wpOp_no rfl rfl rfl hs (congrArg (fun b => some (Value.bool b)) hg4) rfl rfl ?_
        intro a' w' hs'
        exact hK a' w' (hs'.putF (i := 9) rfl [] [0] rfl rfl rfl rfl)
       ·intro L a w hv K Q hK
        have hs := hv
        refine wpOp_no rfl rfl rfl hs (congrArg (fun b => some (Value.bool b)) hg4) rfl rfl ?_
        intro a' w' hs'
        exact hK a' w' (hs'.putF (i := 10) rfl [] [0] rfl rfl rfl rfl)
       ·intro L a w hv K Q hK
        have hs := hv
        refine wpOp_no rfl rfl rfl hs (congrArg (fun b => some (Value.bool b)) hg4) rfl rfl ?_
        intro a' w' hs'
        exact hK a' w' (hs'.putF (i := 11) rfl [] [0] rfl rfl rfl rfl)
       ·intro L a w hv K Q hK
        have hs := hv
        refine wpOp_no rfl rfl rfl hs (congrArg (fun b => some (Value.bool b)) hg4) rfl rfl ?_
        intro a' w' hs'
        exact hK a' w' (hs'.putF (i := 12) rfl [] [0] rfl rfl rfl rfl)
       ·intro L a w hv K Q hK
        have hs := hv
        refine wpOp_no rfl rfl rfl hs (congrArg (fun b => some (Value.bool b)) hg4) rfl rfl ?_
        intro a' w' hs'
        exact hK a' w' (hs'.putF (i := 13) rfl [] [0] rfl rfl rfl rfl)
       ·intro L a w hv K Q hK
        have hs := hv
        refine wpOp_no rfl rfl rfl hs (congrArg (fun b => some (Value.bool b)) hg4) rfl rfl ?_
        intro a' w' hs'
        exact hK a' w' (hs'.putF (i := 14) rfl [] [0] rfl rfl rfl rfl)
       ·intro L a w hv K Q hK
        have hs := hv
        refine wpOp_no rfl rfl rfl hs (congrArg (fun b => some (Value.bool b)) hg4) rfl rfl ?_
        intro a' w' hs'
        exact hK a' w' (hs'.putF (i := 15) rfl [] [0] rfl rfl rfl rfl)
       ·intro L a w hv K Q hK
        have hs := hv
        refine wpOp_no rfl rfl rfl hs (congrArg (fun b => some (Value.bool b)) hg4) rfl rfl ?_
        intro a' w' hs'
        exact hK a' w' (hs'.putF (i := 16) rfl [] [0] rfl rfl rfl rfl)
       ·intro L a w hv K Q hK
        have hs := hv
        refine wpOp_no rfl rfl rfl hs (congrArg (fun b => some (Value.bool b)) hg4) rfl rfl ?_
        intro a' w' hs'
        exact hK a' w' (hs'.putF (i := 17) rfl [] [0] rfl rfl rfl rfl)
       ·intro L a w hv K Q hK
        have hs := hv
        refine wpOp_no rfl rfl rfl hs (congrArg (fun b => some (Value.bool b)) hg4) rfl rfl ?_
        intro a' w' hs'
        exact hK a' w' (hs'.putF (i := 18) rfl [] [0] rfl rfl rfl rfl)
       ·intro L a w hv K Q hK
        have hs := hv
        refine wpOp_no rfl rfl rfl hs (congrArg (fun b => some (Value.bool b)) hg4) rfl rfl ?_
        intro a' w' hs'
        exact hK a' w' (hs'.putF (i := 19) rfl [] [0] rfl rfl rfl rfl)
       ·intro L a w hv K Q hK
        have hs := hv
        refine wpOp_no rfl rfl rfl hs (congrArg (fun b => some (Value.bool b)) hg4) rfl rfl ?_
        intro a' w' hs'
        exact hK a' w' (hs'.putF (i := 20) rfl [] [0] rfl rfl rfl rfl)
       ·intro L a w hL hv
        rw [allTrue hL] at hv
        have hs := hv
        refine (show TA _ _ _ 32 ⟨[(0, some (vl1)), (3, some (vU64 sum1)), (4, some (vI i1)), (28, some (vB (decide (r2.Len > (1048576 : UInt64))))), (40, some (undef)), (45, some (undef))], [], [Fact.sl RegionS vl1 l]⟩ from ?_) a w (hs.wkS [0, 3, 4, 28, 40, 45] [] [0] rfl rfl rfl rfl)
        clear hs hL
        refine TA_no htb (by kernel_rfl) rfl rfl rfl (congrArg (fun b => some (Value.bool b)) hg4) rfl rfl ?_
        refine TA_step htb (by kernel_rfl) rfl rfl (OpT_pickT rfl rfl rfl (congrArg (fun b => some (Value.bool b)) hg4) rfl) ?_
        refine TA_end rfl ?_
        refine Tk_wkS (fr' := [(0, some (vl1)), (3, some (vU64 sum1)), (4, some (vI i1)), (47, some (vB true))]) (own' := []) (shr' := [Fact.sl RegionS vl1 l]) [0, 3, 4, 47] [] [0] rfl rfl rfl rfl ?_
        refine Tk_condT rfl ?_
        refine Tk_seq (Tk_region (Tops_step rfl (OpT_assign rfl rfl rfl rfl) ?_))
        refine Tops_nil (Tk_wkS (fr' := [(2, some (vI (2 : Int)))]) (own' := []) (shr' := []) [2] [] [] rfl rfl rfl rfl ?_)
        obtain rfl := Option.some.inj h
        exact Tk_retV rfl rfl (resA (vs := [vI (2 : Int)]) rfl ⟨rfl, trivial⟩) [] [] rfl rfl rfl ⟨rfl, rfl, rfl⟩
      ·replace h := br_f hg4 h
       obtain ⟨r3, hx3, h⟩ := ob_e h
       obtain ⟨r4, hx4, h⟩ := ob_e h
       obtain ⟨r5, hx5, h⟩ := ob_e h
       refine TA_seg (lo := 15) (hi := 32) htb rfl rfl (by kernel_rfl) (fun c L a w => ∃ (p5 : Value), ∃ (p6 : Value), ∃ (p7 : Value), ∃ (p8 : Value), ∃ (p9 : Value), ∃ (p10 : Value), Sat c ⟨[(0, some (vl1)), (3, some (vU64 sum1)), (4, some (vI i1)), (28, some (vB (decide (r2.Len > (1048576 : UInt64))))), (29, bif L 15 then some (vl1) else none), (30, bif L 16 then some (vI i1) else none), (31, bif L 17 then some (p5) else none), (32, bif L 18 then some (p6) else none), (33, bif L 19 then some (vU64 r3.At) else none), (34, bif L 20 then some (vl1) else none), (35, bif L 21 then some (vI i1) else none), (36, bif L 22 then some (p7) else none), (37, bif L 23 then some (p8) else none), (38, bif L 24 then some (vU64 r4.Len) else none), (39, bif L 25 then some (vU64 (r4.Len - (1 : UInt64))) else none), (40, bif L 26 then some (vU64 (r3.At + (r4.Len - (1 : UInt64)))) else none), (41, bif L 27 then some (vl1) else none), (42, bif L 28 then some (vI i1) else none), (43, bif L 29 then some (p9) else none), (44, bif L 30 then some (p10) else none), (45, bif L 31 then some (vU64 r5.At) else none)], [], [Fact.sl RegionS vl1 l, (bif L 17 then Fact.pt RegionS p5 r3 else Fact.tt), (bif L 18 then Fact.pt u64S p6 r3.At else Fact.tt), (bif L 22 then Fact.pt RegionS p7 r4 else Fact.tt), (bif L 23 then Fact.pt u64S p8 r4.Len else Fact.tt), (bif L 29 then Fact.pt RegionS p9 r5 else Fact.tt), (bif L 30 then Fact.pt u64S p10 r5.At else Fact.tt)]⟩ a w) [([], [17, 18, 19, 26]), ([], [17, 18, 19, 26]), ([15, 16], [18, 19, 26]), ([15, 16, 17], [19, 26]), ([15, 16, 17, 18], [26]), ([], [22, 23, 24, 25, 26]), ([], [22, 23, 24, 25, 26]), ([20, 21], [23, 24, 25, 26]), ([20, 21, 22], [24, 25, 26]), ([20, 21, 22, 23], [25, 26]), ([20, 21, 22, 23, 24], [26]), ([15, 16, 17, 18, 19, 20, 21, 22, 23, 24, 25], []), ([], [29, 30, 31]), ([], [29, 30, 31]), ([27, 28], [30, 31]), ([27, 28, 29], [31]), ([27, 28, 29, 30], [])] rfl (by kernel_rfl) ?_ (steps_cons ?_ (steps_cons ?_ (steps_cons ?_ (steps_cons ?_ (steps_cons ?_ (steps_cons ?_ (steps_cons ?_ (steps_cons ?_ (steps_cons ?_ (steps_cons ?_ (steps_cons ?_ (steps_cons ?_ (steps_cons ?_ (steps_cons ?_ (steps_cons ?_ (steps_cons ?_ (steps_cons ?_ (steps_nil)))))))))))))))))) ?_
       ·intro a w hs
        exact ⟨undef, undef, undef, undef, undef, undef, hs.startF [29, 30, 31, 32, 33, 34, 35, 36, 37, 38, 39, 40, 41, 42, 43, 44, 45] [] [0, 1, 2, 3, 4, 5, 6] rfl rfl rfl rfl⟩
       ·intro L a w hv K Q hK
        obtain ⟨p5, p6, p7, p8, p9, p10, hs⟩ := hv
        refine wpOp_yes rfl rfl rfl hs (congrArg (fun b => some (Value.bool b)) hg4) (OpT_move rfl rfl rfl rfl) ?_
        rintro _ rfl a' w' hs'
        exact hK a' w' ⟨p5, p6, p7, p8, p9, p10, hs'.putF (i := 4) rfl [] [0, 1, 2, 3, 4, 5, 6] rfl rfl rfl rfl⟩
       ·intro L a w hv K Q hK
        obtain ⟨p5, p6, p7, p8, p9, p10, hs⟩ := hv
        refine wpOp_yes rfl rfl rfl hs (congrArg (fun b => some (Value.bool b)) hg4) (OpT_move rfl rfl rfl rfl) ?_
        rintro _ rfl a' w' hs'
        exact hK a' w' ⟨p5, p6, p7, p8, p9, p10, hs'.putF (i := 5) rfl [] [0, 1, 2, 3, 4, 5, 6] rfl rfl rfl rfl⟩
       ·intro L a w hv K Q hK
        obtain ⟨p5, p6, p7, p8, p9, p10, hs⟩ := hv
        refine wpOp_yes rfl rfl rfl hs (congrArg (fun b => some (Value.bool b)) hg4) (OpT_idxS rfl rfl rfl rfl rfl slF45 (i := 0) rfl hx3) ?_
        rintro _ ⟨p5', rfl⟩ a' w' hs'
        exact hK a' w' ⟨p5', p6, p7, p8, p9, p10, hs'.putF (i := 6) rfl [] [0, 7, 2, 3, 4, 5, 6] rfl rfl rfl rfl⟩
       ·intro L a w hv K Q hK
        obtain ⟨p5, p6, p7, p8, p9, p10, hs⟩ := hv
        refine wpOp_yes rfl rfl rfl hs (congrArg (fun b => some (Value.bool b)) hg4) (OpT_fieldP (S' := u64S) (y := r3.At) rfl rfl rfl rfl fldF57x0 (i := 1) rfl (by intro h cs hr; subst hr; rfl)) ?_
        rintro _ ⟨p6', rfl⟩ a' w' hs'
        exact hK a' w' ⟨p5, p6', p7, p8, p9, p10, hs'.putF (i := 7) rfl [] [0, 1, 7, 3, 4, 5, 6] rfl rfl rfl rfl⟩
       ·intro L a w hv K Q hK
        obtain ⟨p5, p6, p7, p8, p9, p10, hs⟩ := hv
        refine wpOp_yes rfl rfl rfl hs (congrArg (fun b => some (Value.bool b)) hg4) (OpT_loadP rfl rfl rfl rfl tyF29 (i := 2) rfl rfl) ?_
        rintro _ rfl a' w' hs'
        exact hK a' w' ⟨p5, p6, p7, p8, p9, p10, hs'.putF (i := 8) rfl [] [0, 1, 2, 3, 4, 5, 6] rfl rfl rfl rfl⟩
       ·intro L a w hv K Q hK
        obtain ⟨p5, p6, p7, p8, p9, p10, hs⟩ := hv
        refine wpOp_yes rfl rfl rfl hs (congrArg (fun b => some (Value.bool b)) hg4) (OpT_move rfl rfl rfl rfl) ?_
        rintro _ rfl a' w' hs'
        exact hK a' w' ⟨p5, p6, p7, p8, p9, p10, hs'.putF (i := 9) rfl [] [0, 1, 2, 3, 4, 5, 6] rfl rfl rfl rfl⟩
       ·intro L a w hv K Q hK
        obtain ⟨p5, p6, p7, p8, p9, p10, hs⟩ := hv
        refine wpOp_yes rfl rfl rfl hs (congrArg (fun b => some (Value.bool b)) hg4) (OpT_move rfl rfl rfl rfl) ?_
        rintro _ rfl a' w' hs'
        exact hK a' w' ⟨p5, p6, p7, p8, p9, p10, hs'.putF (i := 10) rfl [] [0, 1, 2, 3, 4, 5, 6] rfl rfl rfl rfl⟩
       ·intro L a w hv K Q hK
        obtain ⟨p5, p6, p7, p8, p9, p10, hs⟩ := hv
        refine wpOp_yes rfl rfl rfl hs (congrArg (fun b => some (Value.bool b)) hg4) (OpT_idxS rfl rfl rfl rfl rfl slF45 (i := 0) rfl hx4) ?_
        rintro _ ⟨p7', rfl⟩ a' w' hs'
        exact hK a' w' ⟨p5, p6, p7', p8, p9, p10, hs'.putF (i := 11) rfl [] [0, 1, 2, 7, 4, 5, 6] rfl rfl rfl rfl⟩
       ·intro L a w hv K Q hK
        obtain ⟨p5, p6, p7, p8, p9, p10, hs⟩ := hv
        refine wpOp_yes rfl rfl rfl hs (congrArg (fun b => some (Value.bool b)) hg4) (OpT_fieldP (S' := u64S) (y := r4.Len) rfl rfl rfl rfl fldF57x1 (i := 3) rfl (by intro h cs hr; subst hr; rfl)) ?_
        rintro _ ⟨p8', rfl⟩ a' w' hs'
        exact hK a' w' ⟨p5, p6, p7, p8', p9, p10, hs'.putF (i := 12) rfl [] [0, 1, 2, 3, 7, 5, 6] rfl rfl rfl rfl⟩
       ·intro L a w hv K Q hK
        obtain ⟨p5, p6, p7, p8, p9, p10, hs⟩ := hv
        refine wpOp_yes rfl rfl rfl hs (congrArg (fun b => some (Value.bool b)) hg4) (OpT_loadP rfl rfl rfl rfl tyF29 (i := 4) rfl rfl) ?_
        rintro _ rfl a' w' hs'
        exact hK a' w' ⟨p5, p6, p7, p8, p9, p10, hs'.putF (i := 13) rfl [] [0, 1, 2, 3, 4, 5, 6] rfl rfl rfl rfl⟩
       ·intro L a w hv K Q hK
        obtain ⟨p5, p6, p7, p8, p9, p10, hs⟩ := hv
        refine wpOp_yes rfl rfl rfl hs (congrArg (fun b => some (Value.bool b)) hg4) (OpT_bin rfl rfl rfl rfl rfl (bin_sub_u64 (a := r4.Len) (b := (1 : UInt64)))) ?_
        rintro _ rfl a' w' hs'
        exact hK a' w' ⟨p5, p6, p7, p8, p9, p10, hs'.putF (i := 14) rfl [] [0, 1, 2, 3, 4, 5, 6] rfl rfl rfl rfl⟩
       ·intro L a w hv K Q hK
        obtain ⟨p5, p6, p7, p8, p9, p10, hs⟩ := hv
        refine wpOp_yes rfl rfl rfl hs (congrArg (fun b => some (Value.bool b)) hg4) (OpT_bin rfl rfl rfl rfl rfl (bin_add_u64 (a := r3.At) (b := r4.Len - (1 : UInt64)))) ?_
        rintro _ rfl a' w' hs'
        exact hK a' w' ⟨p5, p6, p7, p8, p9, p10, hs'.putF (i := 15) rfl [] [0, 1, 2, 3, 4, 5, 6] rfl rfl rfl rfl⟩
       ·intro L a w hv K Q hK
        obtain ⟨p5, p6, p7, p8, p9, p10, hs⟩ := hv
        refine wpOp_yes rfl rfl rfl hs (congrArg (fun b => some (Value.bool b)) hg4) (OpT_move rfl rfl rfl rfl) ?_
        rintro _ rfl a' w' hs'
        exact hK a' w' ⟨p5, p6, p7, p8, p9, p10, hs'.putF (i := 16) rfl [] [0, 1, 2, 3, 4, 5, 6] rfl rfl rfl rfl⟩
       ·intro L a w hv K Q hK
        obtain ⟨p5, p6, p7, p8, p9, p10, hs⟩ := hv
        refine wpOp_yes rfl rfl rfl hs (congrArg (fun b => some (Value.bool b)) hg4) (OpT_move rfl rfl rfl rfl) ?_
        rintro _ rfl a' w' hs'
        exact hK a' w' ⟨p5, p6, p7, p8, p9, p10, hs'.putF (i := 17) rfl [] [0, 1, 2, 3, 4, 5, 6] rfl rfl rfl rfl⟩
       ·intro L a w hv K Q hK
        obtain ⟨p5, p6, p7, p8, p9, p10, hs⟩ := hv
        refine wpOp_yes rfl rfl rfl hs (congrArg (fun b => some (Value.bool b)) hg4) (OpT_idxS rfl rfl rfl rfl rfl slF45 (i := 0) rfl hx5) ?_
        rintro _ ⟨p9', rfl⟩ a' w' hs'
        exact hK a' w' ⟨p5, p6, p7, p8, p9', p10, hs'.putF (i := 18) rfl [] [0, 1, 2, 3, 4, 7, 6] rfl rfl rfl rfl⟩
       ·intro L a w hv K Q hK
        obtain ⟨p5, p6, p7, p8, p9, p10, hs⟩ := hv
        refine wpOp_yes rfl rfl rfl hs (congrArg (fun b => some (Value.bool b)) hg4) (OpT_fieldP (S' := u64S) (y := r5.At) rfl rfl rfl rfl fldF57x0 (i := 5) rfl (by intro h cs hr; subst hr; rfl)) ?_
        rintro _ ⟨p10', rfl⟩ a' w' hs'
        exact hK a' w' ⟨p5, p6, p7, p8, p9, p10', hs'.putF (i := 19) rfl [] [0, 1, 2, 3, 4, 5, 7] rfl rfl rfl rfl⟩
       ·intro L a w hv K Q hK
        obtain ⟨p5, p6, p7, p8, p9, p10, hs⟩ := hv
        refine wpOp_yes rfl rfl rfl hs (congrArg (fun b => some (Value.bool b)) hg4) (OpT_loadP rfl rfl rfl rfl tyF29 (i := 6) rfl rfl) ?_
        rintro _ rfl a' w' hs'
        exact hK a' w' ⟨p5, p6, p7, p8, p9, p10, hs'.putF (i := 20) rfl [] [0, 1, 2, 3, 4, 5, 6] rfl rfl rfl rfl⟩
       ·intro L a w hL hv
        rw [allTrue hL] at hv
        obtain ⟨p5, p6, p7, p8, p9, p10, hs⟩ := hv
        refine (show TA _ _ _ 32 ⟨[(0, some (vl1)), (3, some (vU64 sum1)), (4, some (vI i1)), (28, some (vB (decide (r2.Len > (1048576 : UInt64))))), (40, some (vU64 (r3.At + (r4.Len - (1 : UInt64))))), (45, some (vU64 r5.At))], [], [Fact.sl RegionS vl1 l]⟩ from ?_) a w (hs.wkS [0, 3, 4, 28, 40, 45] [] [0] rfl rfl rfl rfl)
        clear hs hL
        refine TA_yes htb (by kernel_rfl) rfl rfl rfl (congrArg (fun b => some (Value.bool b)) hg4) (OpT_bin rfl rfl rfl rfl rfl (bin_lss_u64 (a := r3.At + (r4.Len - (1 : UInt64))) (b := r5.At))) ?_
        rintro _ rfl
        refine TA_step htb (by kernel_rfl) rfl rfl (OpT_pickF rfl rfl rfl (congrArg (fun b => some (Value.bool b)) hg4) rfl) ?_
        refine TA_end rfl ?_
        refine Tk_wkS (fr' := [(0, some (vl1)), (3, some (vU64 sum1)), (4, some (vI i1)), (47, some (vB (decide ((r3.At + (r4.Len - (1 : UInt64))) < r5.At))))]) (own' := []) (shr' := [Fact.sl RegionS vl1 l]) [0, 3, 4, 47] [] [0] rfl rfl rfl rfl ?_
        rcases Bool.eq_false_or_eq_true (decide ((r3.At + (r4.Len - (1 : UInt64))) < r5.At)) with hg5 | hg5
        ·replace h := br_t hg5 h
         refine Tk_condT (congrArg (fun b => some (Value.bool b)) hg5) ?_
         refine Tk_seq (Tk_region (Tops_step rfl (OpT_assign rfl rfl rfl rfl) ?_))
         refine Tops_nil (Tk_wkS (fr' := [(2, some (vI (2 : Int)))]) (own' := []) (shr' := []) [2] [] [] rfl rfl rfl rfl ?_)
         obtain rfl := Option.some.inj h
         exact Tk_retV rfl rfl (resA (vs := [vI (2 : Int)]) rfl ⟨rfl, trivial⟩) [] [] rfl rfl rfl ⟨rfl, rfl, rfl⟩
        ·replace h := br_f hg5 h
         refine Tk_condF (congrArg (fun b => some (Value.bool b)) hg5) ?_
         refine Tk_skip (Tk_seq (Tk_region (Tops_step rfl (OpT_move rfl rfl rfl rfl) ?_)))
         refine Tops_step rfl (OpT_move rfl rfl rfl rfl) ?_
         refine Tops_step rfl (OpT_move rfl rfl rfl rfl) ?_
         obtain ⟨r6, hx6, h⟩ := ob_e h
         refine Tops_ex rfl (OpT_idxS rfl rfl rfl rfl rfl slF45 (i := 0) rfl hx6) fun p11 => ?_
         refine Tops_ex rfl (OpT_fieldP (S' := u64S) (y := r6.Len) rfl rfl rfl rfl fldF57x1 (i := 1) rfl (by intro h cs hr; subst hr; rfl)) fun p12 => ?_
         refine Tops_step rfl (OpT_loadP rfl rfl rfl rfl tyF29 (i := 2) rfl rfl) ?_
         refine Tops_step rfl (OpT_bin rfl rfl rfl rfl rfl (bin_add_u64 (a := sum1) (b := r6.Len))) ?_
         refine Tops_step rfl (OpT_assign rfl rfl rfl rfl) ?_
         refine Tops_nil (Tk_wkS (fr' := [(0, some (vl1)), (3, some (vU64 (sum1 + r6.Len))), (4, some (vI i1))]) (own' := []) (shr' := [Fact.sl RegionS vl1 l]) [0, 3, 4] [] [0] rfl rfl rfl rfl ?_)
         refine Tk_seq (Tk_drawT (by kernel_rfl) ?_)
         refine TA_tb [0, 1, 3, 7, 7, 31, 63, 127, 7, 7, 519, 1799, 3847, 7943, 7, 7, 32775, 114695, 245767, 507911, 1032199, 2096903, 4194303, 8388607] (by kernel_rfl) fun htb => ?_
         refine TA_step htb (by kernel_rfl) rfl rfl (OpT_move rfl rfl rfl rfl) ?_
         refine TA_step htb (by kernel_rfl) rfl rfl (OpT_bin rfl rfl rfl rfl rfl (bin_gtr_i (a := i1) (b := (0 : Int)))) ?_
         refine TA_step htb (by kernel_rfl) rfl rfl (OpT_move rfl rfl rfl rfl) ?_
         refine TA_wkS (fr' := [(0, some (vl1)), (3, some (vU64 (sum1 + r6.Len))), (4, some (vI i1)), (57, some (vB (decide (i1 > (0 : Int)))))]) (own' := []) (shr' := [Fact.sl RegionS vl1 l]) [0, 3, 4, 57] [] [0] rfl rfl rfl rfl ?_
         rcases Bool.eq_false_or_eq_true (decide (i1 > (0 : Int))) with hg6 | hg6
         ·replace h := br_t hg6 h
          obtain ⟨r7, hx7, h⟩ := ob_e h
          obtain ⟨r8, hx8, h⟩ := ob_e h
          obtain ⟨r9, hx9, h⟩ := ob_e h
          refine TA_seg (lo := 3) (hi := 22) htb rfl rfl (by kernel_rfl) (fun c L a w => ∃ (p13 : Value), ∃ (p14 : Value), ∃ (p15 : Value), ∃ (p16 : Value), ∃ (p17 : Value), ∃ (p18 : Value), Sat c ⟨[(0, some (vl1)), (3, some (vU64 (sum1 + r6.Len))), (4, some (vI i1)), (57, some (vB (decide (i1 > (0 : Int))))), (58, bif L 3 then some (vl1) else none), (59, bif L 4 then some (vI i1) else none), (60, bif L 5 then some (p13) else none), (61, bif L 6 then some (p14) else none), (62, bif L 7 then some (vU64 r7.At) else none), (63, bif L 8 then some (vl1) else none), (64, bif L 9 then some (vI i1) else none), (65, bif L 10 then some (vI (wi (i1 - (1 : Int)))) else none), (66, bif L 11 then some (p15) else none), (67, bif L 12 then some (p16) else none), (68, bif L 13 then some (vU64 r8.At) else none), (69, bif L 14 then some (vl1) else none), (70, bif L 15 then some (vI i1) else none), (71, bif L 16 then some (vI (wi (i1 - (1 : Int)))) else none), (72, bif L 17 then some (p17) else none), (73, bif L 18 then some (p18) else none), (74, bif L 19 then some (vU64 r9.Len) else none), (75, bif L 20 then some (vU64 (r9.Len - (1 : UInt64))) else none), (76, bif L 21 then some (vU64 (r8.At + (r9.Len - (1 : UInt64)))) else none)], [], [Fact.sl RegionS vl1 l, (bif L 5 then Fact.pt RegionS p13 r7 else Fact.tt), (bif L 6 then Fact.pt u64S p14 r7.At else Fact.tt), (bif L 11 then Fact.pt RegionS p15 r8 else Fact.tt), (bif L 12 then Fact.pt u64S p16 r8.At else Fact.tt), (bif L 17 then Fact.pt RegionS p17 r9 else Fact.tt), (bif L 18 then Fact.pt u64S p18 r9.Len else Fact.tt)]⟩ a w) [([], [5, 6, 7]), ([], [5, 6, 7]), ([3, 4], [6, 7]), ([3, 4, 5], [7]), ([3, 4, 5, 6], []), ([], [11, 12, 13, 21]), ([], [10, 11, 12, 13, 21]), ([9], [11, 12, 13, 21]), ([8, 9, 10], [12, 13, 21]), ([8, 9, 10, 11], [13, 21]), ([8, 9, 10, 11, 12], [21]), ([], [17, 18, 19, 20, 21]), ([], [16, 17, 18, 19, 20, 21]), ([15], [17, 18, 19, 20, 21]), ([14, 15, 16], [18, 19, 20, 21]), ([14, 15, 16, 17], [19, 20, 21]), ([14, 15, 16, 17, 18], [20, 21]), ([14, 15, 16, 17, 18, 19], [21]), ([8, 9, 10, 11, 12, 13, 14, 15, 16, 17, 18, 19, 20], [])] rfl (by kernel_rfl) ?_ (steps_cons ?_ (steps_cons ?_ (steps_cons ?_ (steps_cons ?_ (steps_cons ?_ (steps_cons ?_ (steps_cons ?_ (steps_cons ?_ (steps_cons ?_ (steps_cons ?_ (steps_cons ?_ (steps_cons ?_ (steps_cons ?_ (steps_cons ?_ (steps_cons ?_ (steps_cons ?_ (steps_cons ?_ (steps_cons ?_ (steps_cons ?_ (steps_nil)))))))))))))))))))) ?_
          ·intro a w hs
           exact ⟨undef, undef, undef, undef, undef, undef, hs.startF [58, 59, 60, 61, 62, 63, 64, 65, 66, 67, 68, 69, 70, 71, 72, 73, 74, 75, 76] [] [0, 1, 2, 3, 4, 5, 6] rfl rfl rfl rfl⟩
          ·intro L a w hv K Q hK
           obtain ⟨p13, p14, p15, p16, p17, p18, hs⟩ := hv
           refine wpOp_yes rfl rfl rfl hs (congrArg (fun b => some (Value.bool b)) hg6) (OpT_move rfl rfl rfl rfl) ?_
           rintro _ rfl a' w' hs'
           exact hK a' w' ⟨p13, p14, p15, p16, p17, p18, hs'.putF (i := 4) rfl [] [0, 1, 2, 3, 4, 5, 6] rfl rfl rfl rfl⟩
          ·intro L a w hv K Q hK
           obtain ⟨p13, p14, p15, p16, p17, p18, hs⟩ := hv
           refine wpOp_yes rfl rfl rfl hs (congrArg (fun b => some (Value.bool b)) hg6) (OpT_move rfl rfl rfl rfl) ?_
           rintro _ rfl a' w' hs'
           exact hK a' w' ⟨p13, p14, p15, p16, p17, p18, hs'.putF (i := 5) rfl [] [0, 1, 2, 3, 4, 5, 6] rfl rfl rfl rfl⟩
          ·intro L a w hv K Q hK
           obtain ⟨p13, p14, p15, p16, p17, p18, hs⟩ := hv
           refine wpOp_yes rfl rfl rfl hs (congrArg (fun b => some (Value.bool b)) hg6) (OpT_idxS rfl rfl rfl rfl rfl slF45 (i := 0) rfl hx7) ?_
           rintro _ ⟨p13', rfl⟩ a' w' hs'
           exact hK a' w' ⟨p13', p14, p15, p16, p17, p18, hs'.putF (i := 6) rfl [] [0, 7, 2, 3, 4, 5, 6] rfl rfl rfl rfl⟩
          ·intro L a w hv K Q hK
           obtain ⟨p13, p14, p15, p16, p17, p18, hs⟩ := hv
           refine wpOp_yes rfl rfl rfl hs (congrArg (fun b => some (Value.bool b)) hg6) (OpT_fieldP (S' := u64S) (y := r7.At) rfl rfl rfl rfl fldF57x0 (i := 1) rfl (by intro h cs hr; subst hr; rfl)) ?_
           rintro _ ⟨p14', rfl⟩ a' w' hs'
           exact hK a' w' ⟨p13, p14', p15, p16, p17, p18, hs'.putF (i := 7) rfl [] [0, 1, 7, 3, 4, 5, 6] rfl rfl rfl rfl⟩
          ·intro L a w hv K Q hK
           obtain ⟨p13, p14, p15, p16, p17, p18, hs⟩ := hv
           refine wpOp_yes rfl rfl rfl hs (congrArg (fun b => some (Value.bool b)) hg6) (OpT_loadP rfl rfl rfl rfl tyF29 (i := 2) rfl rfl) ?_
           rintro _ rfl a' w' hs'
           exact hK a' w' ⟨p13, p14, p15, p16, p17, p18, hs'.putF (i := 8) rfl [] [0, 1, 2, 3, 4, 5, 6] rfl rfl rfl rfl⟩
          ·intro L a w hv K Q hK
           obtain ⟨p13, p14, p15, p16, p17, p18, hs⟩ := hv
           refine wpOp_yes rfl rfl rfl hs (congrArg (fun b => some (Value.bool b)) hg6) (OpT_move rfl rfl rfl rfl) ?_
           rintro _ rfl a' w' hs'
           exact hK a' w' ⟨p13, p14, p15, p16, p17, p18, hs'.putF (i := 9) rfl [] [0, 1, 2, 3, 4, 5, 6] rfl rfl rfl rfl⟩
          ·intro L a w hv K Q hK
           obtain ⟨p13, p14, p15, p16, p17, p18, hs⟩ := hv
           refine wpOp_yes rfl rfl rfl hs (congrArg (fun b => some (Value.bool b)) hg6) (OpT_move rfl rfl rfl rfl) ?_
           rintro _ rfl a' w' hs'
           exact hK a' w' ⟨p13, p14, p15, p16, p17, p18, hs'.putF (i := 10) rfl [] [0, 1, 2, 3, 4, 5, 6] rfl rfl rfl rfl⟩
          ·intro L a w hv K Q hK
           obtain ⟨p13, p14, p15, p16, p17, p18, hs⟩ := hv
           refine wpOp_yes rfl rfl rfl hs (congrArg (fun b => some (Value.bool b)) hg6) (OpT_bin rfl rfl rfl rfl rfl (bin_sub_i (a := i1) (b := (1 : Int)))) ?_
           rintro _ rfl a' w' hs'
           exact hK a' w' ⟨p13, p14, p15, p16, p17, p18, hs'.putF (i := 11) rfl [] [0, 1, 2, 3, 4, 5, 6] rfl rfl rfl rfl⟩
          ·intro L a w hv K Q hK
           obtain ⟨p13, p14, p15, p16, p17, p18, hs⟩ := hv
           refine wpOp_yes rfl rfl rfl hs (congrArg (fun b => some (Value.bool b)) hg6) (OpT_idxS rfl rfl rfl rfl rfl slF45 (i := 0) rfl hx8) ?_
           rintro _ ⟨p15', rfl⟩ a' w' hs'
           exact hK a' w' ⟨p13, p14, p15', p16, p17, p18, hs'.putF (i := 12) rfl [] [0, 1, 2, 7, 4, 5, 6] rfl rfl rfl rfl⟩
          ·intro L a w hv K Q hK
           obtain ⟨p13, p14, p15, p16, p17, p18, hs⟩ := hv
           refine wpOp_yes rfl rfl rfl hs (congrArg (fun b => some (Value.bool b)) hg6) (OpT_fieldP (S' := u64S) (y := r8.At) rfl rfl rfl rfl fldF57x0 (i := 3) rfl (by intro h cs hr; subst hr; rfl)) ?_
           rintro _ ⟨p16', rfl⟩ a' w' hs'
           exact hK a' w' ⟨p13, p14, p15, p16', p17, p18, hs'.putF (i := 13) rfl [] [0, 1, 2, 3, 7, 5, 6] rfl rfl rfl rfl⟩
          ·intro L a w hv K Q hK
           obtain ⟨p13, p14, p15, p16, p17, p18, hs⟩ := hv
           refine wpOp_yes rfl rfl rfl hs (congrArg (fun b => some (Value.bool b)) hg6) (OpT_loadP rfl rfl rfl rfl tyF29 (i := 4) rfl rfl) ?_
           rintro _ rfl a' w' hs'
           exact hK a' w' ⟨p13, p14, p15, p16, p17, p18, hs'.putF (i := 14) rfl [] [0, 1, 2, 3, 4, 5, 6] rfl rfl rfl rfl⟩
          ·intro L a w hv K Q hK
           obtain ⟨p13, p14, p15, p16, p17, p18, hs⟩ := hv
           refine wpOp_yes rfl rfl rfl hs (congrArg (fun b => some (Value.bool b)) hg6) (OpT_move rfl rfl rfl rfl) ?_
           rintro _ rfl a' w' hs'
           exact hK a' w' ⟨p13, p14, p15, p16, p17, p18, hs'.putF (i := 15) rfl [] [0, 1, 2, 3, 4, 5, 6] rfl rfl rfl rfl⟩
          ·intro L a w hv K Q hK
           obtain ⟨p13, p14, p15, p16, p17, p18, hs⟩ := hv
           refine wpOp_yes rfl rfl rfl hs (congrArg (fun b => some (Value.bool b)) hg6) (OpT_move rfl rfl rfl rfl) ?_
           rintro _ rfl a' w' hs'
           exact hK a' w' ⟨p13, p14, p15, p16, p17, p18, hs'.putF (i := 16) rfl [] [0, 1, 2, 3, 4, 5, 6] rfl rfl rfl rfl⟩
          ·intro L a w hv K Q hK
           obtain ⟨p13, p14, p15, p16, p17, p18, hs⟩ := hv
           refine wpOp_yes rfl rfl rfl hs (congrArg (fun b => some (Value.bool b)) hg6) (OpT_bin rfl rfl rfl rfl rfl (bin_sub_i (a := i1) (b := (1 : Int)))) ?_
           rintro _ rfl a' w' hs'
           exact hK a' w' ⟨p13, p14, p15, p16, p17, p18, hs'.putF (i := 17) rfl [] [0, 1, 2, 3, 4, 5, 6] rfl rfl rfl rfl⟩
          ·intro L a w hv K Q hK
           obtain ⟨p13, p14, p15, p16, p17, p18, hs⟩ := hv
           refine wpOp_yes rfl rfl rfl hs (congrArg (fun b => some (Value.bool b)) hg6) (OpT_idxS rfl rfl rfl rfl rfl slF45 (i := 0) rfl hx9) ?_
           rintro _ ⟨p17', rfl⟩ a' w' hs'
           exact hK a' w' ⟨p13, p14, p15, p16, p17', p18, hs'.putF (i := 18) rfl [] [0, 1, 2, 3, 4, 7, 6] rfl rfl rfl rfl⟩
          ·intro L a w hv K Q hK
           obtain ⟨p13, p14, p15, p16, p17, p18, hs⟩ := hv
           refine wpOp_yes rfl rfl rfl hs (congrArg (fun b => some (Value.bool b)) hg6) (OpT_fieldP (S' := u64S) (y := r9.Len) rfl rfl rfl rfl fldF57x1 (i := 5) rfl (by intro h cs hr; subst hr; rfl)) ?_
           rintro _ ⟨p18', rfl⟩ a' w' hs'
           exact hK a' w' ⟨p13, p14, p15, p16, p17, p18', hs'.putF (i := 19) rfl [] [0, 1, 2, 3, 4, 5, 7] rfl rfl rfl rfl⟩
          ·intro L a w hv K Q hK
           obtain ⟨p13, p14, p15, p16, p17, p18, hs⟩ := hv
           refine wpOp_yes rfl rfl rfl hs (congrArg (fun b => some (Value.bool b)) hg6) (OpT_loadP rfl rfl rfl rfl tyF29 (i := 6) rfl rfl) ?_
           rintro _ rfl a' w' hs'
           exact hK a' w' ⟨p13, p14, p15, p16, p17, p18, hs'.putF (i := 20) rfl [] [0, 1, 2, 3, 4, 5, 6] rfl rfl rfl rfl⟩
          ·intro L a w hv K Q hK
           obtain ⟨p13, p14, p15, p16, p17, p18, hs⟩ := hv
           refine wpOp_yes rfl rfl rfl hs (congrArg (fun b => some (Value.bool b)) hg6) (OpT_bin rfl rfl rfl rfl rfl (bin_sub_u64 (a := r9.Len) (b := (1 : UInt64)))) ?_
           rintro _ rfl a' w' hs'
           exact hK a' w' ⟨p13, p14, p15, p16, p17, p18, hs'.putF (i := 21) rfl [] [0, 1, 2, 3, 4, 5, 6] rfl rfl rfl rfl⟩
          ·intro L a w hv K Q hK
           obtain ⟨p13, p14, p15, p16, p17, p18, hs⟩ := hv
           refine wpOp_yes rfl rfl rfl hs (congrArg (fun b => some (Value.bool b)) hg6) (OpT_bin rfl rfl rfl rfl rfl (bin_add_u64 (a := r8.At) (b := r9.Len - (1 : UInt64)))) ?_
           rintro _ rfl a' w' hs'
           exact hK a' w' ⟨p13, p14, p15, p16, p17, p18, hs'.putF (i := 22) rfl [] [0, 1, 2, 3, 4, 5, 6] rfl rfl rfl rfl⟩
          ·intro L a w hL hv
           rw [allTrue hL] at hv
           obtain ⟨p13, p14, p15, p16, p17, p18, hs⟩ := hv
           refine (show TA _ _ _ 22 ⟨[(0, some (vl1)), (3, some (vU64 (sum1 + r6.Len))), (4, some (vI i1)), (57, some (vB (decide (i1 > (0 : Int))))), (62, some (vU64 r7.At)), (76, some (vU64 (r8.At + (r9.Len - (1 : UInt64)))))], [], [Fact.sl RegionS vl1 l]⟩ from ?_) a w (hs.wkS [0, 3, 4, 57, 62, 76] [] [0] rfl rfl rfl rfl)
           clear hs hL
           refine TA_yes htb (by kernel_rfl) rfl rfl rfl (congrArg (fun b => some (Value.bool b)) hg6) (OpT_bin rfl rfl rfl rfl rfl (bin_leq_u64 (a := r7.At) (b := r8.At + (r9.Len - (1 : UInt64))))) ?_
           rintro _ rfl
           refine TA_step htb (by kernel_rfl) rfl rfl (OpT_pickT rfl rfl rfl (congrArg (fun b => some (Value.bool b)) hg6) rfl) ?_
           refine TA_end rfl ?_
           refine Tk_wkS (fr' := [(0, some (vl1)), (3, some (vU64 (sum1 + r6.Len))), (4, some (vI i1)), (78, some (vB (decide (r7.At ≤ (r8.At + (r9.Len - (1 : UInt64)))))))]) (own' := []) (shr' := [Fact.sl RegionS vl1 l]) [0, 3, 4, 78] [] [0] rfl rfl rfl rfl ?_
           rcases Bool.eq_false_or_eq_true (decide (r7.At ≤ (r8.At + (r9.Len - (1 : UInt64))))) with hg7 | hg7
           ·replace h := br_t hg7 h
            refine Tk_condT (congrArg (fun b => some (Value.bool b)) hg7) ?_
            refine Tk_seq (Tk_region (Tops_step rfl (OpT_assign rfl rfl rfl rfl) ?_))
            refine Tops_nil (Tk_wkS (fr' := [(2, some (vI (2 : Int)))]) (own' := []) (shr' := []) [2] [] [] rfl rfl rfl rfl ?_)
            obtain rfl := Option.some.inj h
            exact Tk_retV rfl rfl (resA (vs := [vI (2 : Int)]) rfl ⟨rfl, trivial⟩) [] [] rfl rfl rfl ⟨rfl, rfl, rfl⟩
           ·replace h := br_f hg7 h
            refine Tk_condF (congrArg (fun b => some (Value.bool b)) hg7) ?_
            refine Tk_skip (Tk_blk (Tk_region (Tops_step rfl (OpT_move rfl rfl rfl rfl) ?_)))
            refine Tops_step rfl (OpT_bin rfl rfl rfl rfl rfl (bin_add_i (a := i1) (b := (1 : Int)))) ?_
            refine Tops_step rfl (OpT_assign rfl rfl rfl rfl) ?_
            refine Tops_nil (Tk_wkS (fr' := [(0, some (vl1)), (3, some (vU64 (sum1 + r6.Len))), (4, some (vI (wi (i1 + (1 : Int)))))]) (own' := []) (shr' := [Fact.sl RegionS vl1 l]) [0, 3, 4] [] [0] rfl rfl rfl rfl ?_)
            exact Tk_backS (sum1 + r6.Len, wi (i1 + (1 : Int))) h [0, 3, 4] [] [0] rfl rfl rfl rfl rfl
         ·replace h := br_f hg6 h
          refine TA_seg (lo := 3) (hi := 22) htb rfl rfl (by kernel_rfl) (fun c L a w => Sat c ⟨[(0, some (vl1)), (3, some (vU64 (sum1 + r6.Len))), (4, some (vI i1)), (57, some (vB (decide (i1 > (0 : Int))))), (58, bif L 3 then some (undef) else none), (59, bif L 4 then some (undef) else none), (60, bif L 5 then some (undef) else none), (61, bif L 6 then some (undef) else none), (62, bif L 7 then some (undef) else none), (63, bif L 8 then some (undef) else none), (64, bif L 9 then some (undef) else none), (65, bif L 10 then some (undef) else none), (66, bif L 11 then some (undef) else none), (67, bif L 12 then some (undef) else none), (68, bif L 13 then some (undef) else none), (69, bif L 14 then some (undef) else none), (70, bif L 15 then some (undef) else none), (71, bif L 16 then some (undef) else none), (72, bif L 17 then some (undef) else none), (73, bif L 18 then some (undef) else none), (74, bif L 19 then some (undef) else none), (75, bif L 20 then some (undef) else none), (76, bif L 21 then some (undef) else none)], [], [Fact.sl RegionS vl1 l]⟩ a w) [([], [5, 6, 7]), ([], [5, 6, 7]), ([3, 4], [6, 7]), ([3, 4, 5], [7]), ([3, 4, 5, 6], []), ([], [11, 12, 13, 21]), ([], [10, 11, 12, 13, 21]), ([9], [11, 12, 13, 21]), ([8, 9, 10], [12, 13, 21]), ([8, 9, 10, 11], [13, 21]), ([8, 9, 10, 11, 12], [21]), ([], [17, 18, 19, 20, 21]), ([], [16, 17, 18, 19, 20, 21]), ([15], [17, 18, 19, 20, 21]), ([14, 15, 16], [18, 19, 20, 21]), ([14, 15, 16, 17], [19, 20, 21]), ([14, 15, 16, 17, 18], [20, 21]), ([14, 15, 16, 17, 18, 19], [21]), ([8, 9, 10, 11, 12, 13, 14, 15, 16, 17, 18, 19, 20], [])] rfl (by kernel_rfl) ?_ (steps_cons ?_ (steps_cons ?_ (steps_cons ?_ (steps_cons ?_ (steps_cons ?_ (steps_cons ?_ (steps_cons ?_ (steps_cons ?_ (steps_cons ?_ (steps_cons ?_ (steps_cons ?_ (steps_cons ?_ (steps_cons ?_ (steps_cons ?_ (steps_cons ?_ (steps_cons ?_ (steps_cons ?_ (steps_cons ?_ (steps_cons ?_ (steps_nil)))))))))))))))))))) ?_
          ·intro a w hs
           exact hs.startF [58, 59, 60, 61, 62, 63, 64, 65, 66, 67, 68, 69, 70, 71, 72, 73, 74, 75, 76] [] [0] rfl rfl rfl rfl
          ·intro L a w hv K Q hK
           have hs := hv
           refine wpOp_no rfl rfl rfl hs (congrArg (fun b => some (Value.bool b)) hg6) rfl rfl ?_
           intro a' w' hs'
           exact hK a' w' (hs'.putF (i := 4) rfl [] [0] rfl rfl rfl rfl)
          ·intro L a w hv K Q hK
           have hs := hv
           refine wpOp_no rfl rfl rfl hs (congrArg (fun b => some (Value.bool b)) hg6) rfl rfl ?_
           intro a' w' hs'
           exact hK a' w' (hs'.putF (i := 5) rfl [] [0] rfl rfl rfl rfl)
          ·intro L a w hv K Q hK
           have hs := hv
           refine wpOp_no rfl rfl rfl hs (congrArg (fun b => some (Value.bool b)) hg6) rfl rfl ?_
           intro a' w' hs'
           exact hK a' w' (hs'.putF (i := 6) rfl [] [0] rfl rfl rfl rfl)
          ·intro L a w hv K Q hK
           have hs := hv
           refine wpOp_no rfl rfl rfl hs (congrArg (fun b => some (Value.bool b)) hg6) rfl rfl ?_
           intro a' w' hs'
           exact hK a' w' (hs'.putF (i := 7) rfl [] [0] rfl rfl rfl rfl)
          ·intro L a w hv K Q hK
           have hs := hv
           refine wpOp_no rfl rfl rfl hs (congrArg (fun b => some (Value.bool b)) hg6) rfl rfl ?_
           intro a' w' hs'
           exact hK a' w' (hs'.putF (i := 8) rfl [] [0] rfl rfl rfl rfl)
          ·intro L a w hv K Q hK
           have hs := hv
           refine wpOp_no rfl rfl rfl hs (congrArg (fun b => some (Value.bool b)) hg6) rfl rfl ?_
           intro a' w' hs'
           exact hK a' w' (hs'.putF (i := 9) rfl [] [0] rfl rfl rfl rfl)
          ·intro L a w hv K Q hK
           have hs := hv
           refine wpOp_no rfl rfl rfl hs (congrArg (fun b => some (Value.bool b)) hg6) rfl rfl ?_
           intro a' w' hs'
           exact hK a' w' (hs'.putF (i := 10) rfl [] [0] rfl rfl rfl rfl)
          ·intro L a w hv K Q hK
           have hs := hv
           refine wpOp_no rfl rfl rfl hs (congrArg (fun b => some (Value.bool b)) hg6) rfl rfl ?_
           intro a' w' hs'
           exact hK a' w' (hs'.putF (i := 11) rfl [] [0] rfl rfl rfl rfl)
          ·intro L a w hv K Q hK
           have hs := hv
           refine wpOp_no rfl rfl rfl hs (congrArg (fun b => some (Value.bool b)) hg6) rfl rfl ?_
           intro a' w' hs'
           exact hK a' w' (hs'.putF (i := 12) rfl [] [0] rfl rfl rfl rfl)
          ·intro L a w hv K Q hK
           have hs := hv
           refine wpOp_no rfl rfl rfl hs (congrArg (fun b => some (Value.bool b)) hg6) rfl rfl ?_
           intro a' w' hs'
           exact hK a' w' (hs'.putF (i := 13) rfl [] [0] rfl rfl rfl rfl)
          ·intro L a w hv K Q hK
           have hs := hv
           refine wpOp_no rfl rfl rfl hs (congrArg (fun b => some (Value.bool b)) hg6) rfl rfl ?_
           intro a' w' hs'
           exact hK a' w' (hs'.putF (i := 14) rfl [] [0] rfl rfl rfl rfl)
          ·intro L a w hv K Q hK
           have hs := hv
           refine wpOp_no rfl rfl rfl hs (congrArg (fun b => some (Value.bool b)) hg6) rfl rfl ?_
           intro a' w' hs'
           exact hK a' w' (hs'.putF (i := 15) rfl [] [0] rfl rfl rfl rfl)
          ·intro L a w hv K Q hK
           have hs := hv
           refine wpOp_no rfl rfl rfl hs (congrArg (fun b => some (Value.bool b)) hg6) rfl rfl ?_
           intro a' w' hs'
           exact hK a' w' (hs'.putF (i := 16) rfl [] [0] rfl rfl rfl rfl)
          ·intro L a w hv K Q hK
           have hs := hv
           refine wpOp_no rfl rfl rfl hs (congrArg (fun b => some (Value.bool b)) hg6) rfl rfl ?_
           intro a' w' hs'
           exact hK a' w' (hs'.putF (i := 17) rfl [] [0] rfl rfl rfl rfl)
          ·intro L a w hv K Q hK
           have hs := hv
           refine wpOp_no rfl rfl rfl hs (congrArg (fun b => some (Value.bool b)) hg6) rfl rfl ?_
           intro a' w' hs'
           exact hK a' w' (hs'.putF (i := 18) rfl [] [0] rfl rfl rfl rfl)
          ·intro L a w hv K Q hK
           have hs := hv
           refine wpOp_no rfl rfl rfl hs (congrArg (fun b => some (Value.bool b)) hg6) rfl rfl ?_
           intro a' w' hs'
           exact hK a' w' (hs'.putF (i := 19) rfl [] [0] rfl rfl rfl rfl)
          ·intro L a w hv K Q hK
           have hs := hv
           refine wpOp_no rfl rfl rfl hs (congrArg (fun b => some (Value.bool b)) hg6) rfl rfl ?_
           intro a' w' hs'
           exact hK a' w' (hs'.putF (i := 20) rfl [] [0] rfl rfl rfl rfl)
          ·intro L a w hv K Q hK
           have hs := hv
           refine wpOp_no rfl rfl rfl hs (congrArg (fun b => some (Value.bool b)) hg6) rfl rfl ?_
           intro a' w' hs'
           exact hK a' w' (hs'.putF (i := 21) rfl [] [0] rfl rfl rfl rfl)
          ·intro L a w hv K Q hK
           have hs := hv
           refine wpOp_no rfl rfl rfl hs (congrArg (fun b => some (Value.bool b)) hg6) rfl rfl ?_
           intro a' w' hs'
           exact hK a' w' (hs'.putF (i := 22) rfl [] [0] rfl rfl rfl rfl)
          ·intro L a w hL hv
           rw [allTrue hL] at hv
           have hs := hv
           refine (show TA _ _ _ 22 ⟨[(0, some (vl1)), (3, some (vU64 (sum1 + r6.Len))), (4, some (vI i1)), (57, some (vB (decide (i1 > (0 : Int))))), (62, some (undef)), (76, some (undef))], [], [Fact.sl RegionS vl1 l]⟩ from ?_) a w (hs.wkS [0, 3, 4, 57, 62, 76] [] [0] rfl rfl rfl rfl)
           clear hs hL
           refine TA_no htb (by kernel_rfl) rfl rfl rfl (congrArg (fun b => some (Value.bool b)) hg6) rfl rfl ?_
           refine TA_step htb (by kernel_rfl) rfl rfl (OpT_pickF rfl rfl rfl (congrArg (fun b => some (Value.bool b)) hg6) rfl) ?_
           refine TA_end rfl ?_
           refine Tk_wkS (fr' := [(0, some (vl1)), (3, some (vU64 (sum1 + r6.Len))), (4, some (vI i1)), (78, some (vB false))]) (own' := []) (shr' := [Fact.sl RegionS vl1 l]) [0, 3, 4, 78] [] [0] rfl rfl rfl rfl ?_
           refine Tk_condF rfl ?_
           refine Tk_skip (Tk_blk (Tk_region (Tops_step rfl (OpT_move rfl rfl rfl rfl) ?_)))
           refine Tops_step rfl (OpT_bin rfl rfl rfl rfl rfl (bin_add_i (a := i1) (b := (1 : Int)))) ?_
           refine Tops_step rfl (OpT_assign rfl rfl rfl rfl) ?_
           refine Tops_nil (Tk_wkS (fr' := [(0, some (vl1)), (3, some (vU64 (sum1 + r6.Len))), (4, some (vI (wi (i1 + (1 : Int)))))]) (own' := []) (shr' := [Fact.sl RegionS vl1 l]) [0, 3, 4] [] [0] rfl rfl rfl rfl ?_)
           exact Tk_backS (sum1 + r6.Len, wi (i1 + (1 : Int))) h [0, 3, 4] [] [0] rfl rfl rfl rfl rfl
  ·replace h := br_f hg2 h
   refine Tk_condF (congrArg (fun b => some (Value.bool b)) hg2) ?_
   refine Tk_exit _ rfl ?_
   refine Tk_seq (Tk_seq (Tk_region (Tops_step rfl (OpT_move rfl rfl rfl rfl) ?_)))
   refine Tops_step rfl (OpT_bin rfl rfl rfl rfl rfl (bin_gtr_u64 (a := sum1) (b := (1048576 : UInt64)))) ?_
   refine Tops_nil (Tk_wkS (fr' := [(80, some (vB (decide (sum1 > (1048576 : UInt64)))))]) (own' := []) (shr' := []) [80] [] [] rfl rfl rfl rfl ?_)
   rcases Bool.eq_false_or_eq_true (decide (sum1 > (1048576 : UInt64))) with hg8 | hg8
   ·replace h := br_t hg8 h
    refine Tk_condT (congrArg (fun b => some (Value.bool b)) hg8) ?_
    refine Tk_seq (Tk_region (Tops_step rfl (OpT_assign rfl rfl rfl rfl) ?_))
    refine Tops_nil (Tk_wkS (fr' := [(2, some (vI (2 : Int)))]) (own' := []) (shr' := []) [2] [] [] rfl rfl rfl rfl ?_)
    obtain rfl := Option.some.inj h
    exact Tk_retV rfl rfl (resA (vs := [vI (2 : Int)]) rfl ⟨rfl, trivial⟩) [] [] rfl rfl rfl ⟨rfl, rfl, rfl⟩
   ·replace h := br_f hg8 h
    refine Tk_condF (congrArg (fun b => some (Value.bool b)) hg8) ?_
    refine Tk_skip (Tk_seq (Tk_region (Tops_step rfl (OpT_assign rfl rfl rfl rfl) ?_)))
    refine Tops_nil (Tk_wkS (fr' := [(2, some (vI (0 : Int)))]) (own' := []) (shr' := []) [2] [] [] rfl rfl rfl rfl ?_)
    obtain rfl := Option.some.inj h
    exact Tk_retV rfl rfl (resA (vs := [vI (0 : Int)]) rfl ⟨rfl, trivial⟩) [] [] rfl rfl rfl ⟨rfl, rfl, rfl⟩
end Go.Proofs.Ytkmjpgfbcklopaa
