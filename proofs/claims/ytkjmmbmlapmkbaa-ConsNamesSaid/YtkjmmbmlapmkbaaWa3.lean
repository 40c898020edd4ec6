/- The functions do what the plain words say: each is walked once. No statement of the seat is proved here; no condition. -/
import Derived.Test.YtkjmmbmlapmkbaaWa2
namespace Go.Proofs.Ytkjmmbmlapmkbaa

set_option maxRecDepth 100000 in
set_option maxHeartbeats 4000000 in
theorem w_cons_Config {cols : Int} {rows : Int} {count : Int} {r : (List UInt8)} (h : cons_Config cols rows count = some r) :
  Ctr Try.prog 24 #[vI cols, vI rows, vI count] [] []
   (fun rv own shr => ∃ (w1 : Value), rv = w1 ∧ own = [(rowS u8S w1 r)] ∧ shr = []) := by
 unfold cons_Config at h
 refine Ctr.mk (args := [vI cols, vI rows, vI count]) Try.func24 rfl rfl (fun R0 w0 B => ?_)
 refine Tk_seq (Tk_region (Tops_step rfl (OpT_assign rfl rfl rfl rfl) ?_))
 refine Tops_nil (Tk_wkS (fr' := [(0, some (vI cols)), (1, some (vI rows)), (2, some (vI count))]) (own' := []) (shr' := []) [0, 1, 2] [] [] rfl rfl rfl rfl ?_)
 refine Tk_seq (Tk_region (Tops_step rfl (OpT_move rfl rfl rfl rfl) ?_))
 refine Tops_step rfl (OpT_cnv rfl rfl rfl rfl (cnv_i_u8 (n := cols) Try.underlying3 Try.underlying5)) ?_
 refine Tops_step rfl (OpT_move rfl rfl rfl rfl) ?_
 refine Tops_step rfl (OpT_bin rfl rfl rfl rfl rfl (bin_shr_i_u64 (a := cols) (n := (8 : UInt64)))) ?_
 refine Tops_step rfl (OpT_cnv rfl rfl rfl rfl (cnv_i_u8 (n := shri cols ((8 : UInt64).toNat)) Try.underlying3 Try.underlying5)) ?_
 refine Tops_step rfl (OpT_move rfl rfl rfl rfl) ?_
 refine Tops_step rfl (OpT_cnv rfl rfl rfl rfl (cnv_i_u8 (n := rows) Try.underlying3 Try.underlying5)) ?_
 refine Tops_step rfl (OpT_move rfl rfl rfl rfl) ?_
 refine Tops_step rfl (OpT_bin rfl rfl rfl rfl rfl (bin_shr_i_u64 (a := rows) (n := (8 : UInt64)))) ?_
 refine Tops_step rfl (OpT_cnv rfl rfl rfl rfl (cnv_i_u8 (n := shri rows ((8 : UInt64).toNat)) Try.underlying3 Try.underlying5)) ?_
 refine Tops_step rfl (OpT_move rfl rfl rfl rfl) ?_
 refine Tops_step rfl (OpT_cnv rfl rfl rfl rfl (cnv_i_u8 (n := count) Try.underlying3 Try.underlying5)) ?_
 refine Tops_step rfl (OpT_move rfl rfl rfl rfl) ?_
 refine Tops_step rfl (OpT_bin rfl rfl rfl rfl rfl (bin_shr_i_u64 (a := count) (n := (8 : UInt64)))) ?_
 refine Tops_step rfl (OpT_cnv rfl rfl rfl rfl (cnv_i_u8 (n := shri count ((8 : UInt64).toNat)) Try.underlying3 Try.underlying5)) ?_
 refine Tops_step rfl (OpT_move rfl rfl rfl rfl) ?_
 refine Tops_step rfl (OpT_bin rfl rfl rfl rfl rfl (bin_shr_i_u64 (a := count) (n := (16 : UInt64)))) ?_
 refine Tops_step rfl (OpT_cnv rfl rfl rfl rfl (cnv_i_u8 (n := shri count ((16 : UInt64).toNat)) Try.underlying3 Try.underlying5)) ?_
 refine Tops_step rfl (OpT_move rfl rfl rfl rfl) ?_
 refine Tops_step rfl (OpT_bin rfl rfl rfl rfl rfl (bin_shr_i_u64 (a := count) (n := (24 : UInt64)))) ?_
 refine Tops_step rfl (OpT_cnv rfl rfl rfl rfl (cnv_i_u8 (n := shri count ((24 : UInt64).toNat)) Try.underlying3 Try.underlying5)) ?_
 refine Tops_ex rfl (OpT_buildSlice (S := u8S) (xs := [u8 cols, u8 (shri cols ((8 : UInt64).toNat)), u8 rows, u8 (shri rows ((8 : UInt64).toNat)), u8 count, u8 (shri count ((8 : UInt64).toNat)), u8 (shri count ((16 : UInt64).toNat)), u8 (shri count ((24 : UInt64).toNat)), (0 : UInt8), (0 : UInt8), (0 : UInt8), (0 : UInt8)]) (css := [[vU8 (u8 cols)], [vU8 (u8 (shri cols ((8 : UInt64).toNat)))], [vU8 (u8 rows)], [vU8 (u8 (shri rows ((8 : UInt64).toNat)))], [vU8 (u8 count)], [vU8 (u8 (shri count ((8 : UInt64).toNat)))], [vU8 (u8 (shri count ((16 : UInt64).toNat)))], [vU8 (u8 (shri count ((24 : UInt64).toNat)))], [vU8 (0 : UInt8)], [vU8 (0 : UInt8)], [vU8 (0 : UInt8)], [vU8 (0 : UInt8)]]) (cs := [vU8 (u8 cols), vU8 (u8 (shri cols ((8 : UInt64).toNat))), vU8 (u8 rows), vU8 (u8 (shri rows ((8 : UInt64).toNat))), vU8 (u8 count), vU8 (u8 (shri count ((8 : UInt64).toNat))), vU8 (u8 (shri count ((16 : UInt64).toNat))), vU8 (u8 (shri count ((24 : UInt64).toNat))), vU8 (0 : UInt8), vU8 (0 : UInt8), vU8 (0 : UInt8), vU8 (0 : UInt8)]) (e := 5) rfl rfl rfl rfl (bldF slF30 (by decide) (by kernel_rfl)) rfl rfl rfl rfl (rel_plainD (S := u8S) (xs := [u8 cols, u8 (shri cols ((8 : UInt64).toNat)), u8 rows, u8 (shri rows ((8 : UInt64).toNat)), u8 count, u8 (shri count ((8 : UInt64).toNat)), u8 (shri count ((16 : UInt64).toNat)), u8 (shri count ((24 : UInt64).toNat)), (0 : UInt8), (0 : UInt8), (0 : UInt8), (0 : UInt8)]) (css := [[vU8 (u8 cols)], [vU8 (u8 (shri cols ((8 : UInt64).toNat)))], [vU8 (u8 rows)], [vU8 (u8 (shri rows ((8 : UInt64).toNat)))], [vU8 (u8 count)], [vU8 (u8 (shri count ((8 : UInt64).toNat)))], [vU8 (u8 (shri count ((16 : UInt64).toNat)))], [vU8 (u8 (shri count ((24 : UInt64).toNat)))], [vU8 (0 : UInt8)], [vU8 (0 : UInt8)], [vU8 (0 : UInt8)], [vU8 (0 : UInt8)]]) rfl rfl)) fun v1 => ?_
 refine Tops_step rfl (OpT_assign rfl rfl rfl rfl) ?_
 refine Tops_nil (Tk_wkS (fr' := [(6, some (v1))]) (own' := [some (rowS u8S v1 [u8 cols, u8 (shri cols ((8 : UInt64).toNat)), u8 rows, u8 (shri rows ((8 : UInt64).toNat)), u8 count, u8 (shri count ((8 : UInt64).toNat)), u8 (shri count ((16 : UInt64).toNat)), u8 (shri count ((24 : UInt64).toNat)), (0 : UInt8), (0 : UInt8), (0 : UInt8), (0 : UInt8)])]) (shr' := []) [6] [0] [] rfl rfl rfl rfl ?_)
 obtain rfl := Option.some.inj h
 exact Tk_retV rfl rfl (resA (vs := [v1]) rfl ⟨rfl, trivial⟩) [0] [] rfl rfl rfl ⟨v1, rfl, rfl, rfl⟩

set_option maxRecDepth 100000 in
set_option maxHeartbeats 4000000 in
theorem w_cons_Size_1 {ip0 : Int} {arg1 : List UInt8} {b_arg1 : Nat} {varg11 : Value} {r : Int} (h : cons_Size_1 ip0 arg1 = some r) :
  Ctr Try.prog 39 #[vI ip0, .pointer (some ⟨b_arg1, 0, none⟩)] [(cellsR b_arg1 30 [varg11])] [Fact.sl u8S varg11 arg1]
   (fun rv own shr => rv = vI r ∧ own = [(cellsR b_arg1 30 [varg11])] ∧ shr = []) := by
 unfold cons_Size_1 at h
 refine Ctr.mk (args := [vI ip0, .pointer (some ⟨b_arg1, 0, none⟩)]) Try.func39 rfl rfl (fun R0 w0 B => ?_)
 refine Tk_seq (Tk_region (Tops_step rfl (OpT_assign rfl rfl rfl rfl) ?_))
 refine Tops_nil (Tk_wkS (fr' := [(0, some (vI ip0)), (1, some (.pointer (some ⟨b_arg1, 0, none⟩)))]) (own' := [some (cellsR b_arg1 30 [varg11])]) (shr' := [Fact.sl u8S varg11 arg1]) [0, 1] [0] [0] rfl rfl rfl rfl ?_)
 refine Tk_seq (Tk_drawT (by kernel_rfl) ?_)
 refine TA_tb [0, 0, 3, 7, 15, 0, 0, 64, 224, 480, 992, 2016, 4095, 8191] (by kernel_rfl) fun htb => ?_
 obtain ⟨y1, hx1, h⟩ := ob_e h
 obtain ⟨y2, hx2, h⟩ := ob_e h
 refine TA_seg (lo := 0) (hi := 12) htb rfl rfl (by kernel_rfl) (fun c L a w => ∃ (p1 : Value), ∃ (p2 : Value), Sat c ⟨[(0, some (vI ip0)), (1, some (.pointer (some ⟨b_arg1, 0, none⟩))), (4, bif L 0 then some (varg11) else none), (5, bif L 1 then some (vI ip0) else none), (6, bif L 2 then some (p1) else none), (7, bif L 3 then some (vU8 y1) else none), (8, bif L 4 then some (vI (i8 y1)) else none), (9, bif L 5 then some (varg11) else none), (10, bif L 6 then some (vI ip0) else none), (11, bif L 7 then some (vI (wi (ip0 + (1 : Int)))) else none), (12, bif L 8 then some (p2) else none), (13, bif L 9 then some (vU8 y2) else none), (14, bif L 10 then some (vI (i8 y2)) else none), (15, bif L 11 then some (vI (shli (i8 y2) ((8 : UInt64).toNat))) else none)], [(some (cellsR b_arg1 30 [varg11]) : Option Res)], [Fact.sl u8S varg11 arg1, (bif L 2 then Fact.pt u8S p1 y1 else Fact.tt), (bif L 8 then Fact.pt u8S p2 y2 else Fact.tt)]⟩ a w) [([], [2, 3, 4]), ([], [2, 3, 4]), ([0, 1], [3, 4]), ([0, 1, 2], [4]), ([0, 1, 2, 3], []), ([], [8, 9, 10, 11]), ([], [7, 8, 9, 10, 11]), ([6], [8, 9, 10, 11]), ([5, 6, 7], [9, 10, 11]), ([5, 6, 7, 8], [10, 11]), ([5, 6, 7, 8, 9], [11]), ([5, 6, 7, 8, 9, 10], [])] rfl (by kernel_rfl) ?_ (steps_cons ?_ (steps_cons ?_ (steps_cons ?_ (steps_cons ?_ (steps_cons ?_ (steps_cons ?_ (steps_cons ?_ (steps_cons ?_ (steps_cons ?_ (steps_cons ?_ (steps_cons ?_ (steps_cons ?_ (steps_nil))))))))))))) ?_
 ·intro a w hs
  exact ⟨undef, undef, hs.startF [4, 5, 6, 7, 8, 9, 10, 11, 12, 13, 14, 15] [0] [0, 1, 2] rfl rfl rfl rfl⟩
 ·intro L a w hv K Q hK
  obtain ⟨p1, p2, hs⟩ := hv
  refine wpOp_go rfl rfl hs (OpT_loadC rfl rfl rfl rfl tyF30 (i := 0) rfl rfl) ?_
  rintro _ rfl a' w' hs'
  exact hK a' w' ⟨p1, p2, hs'.putF (i := 2) rfl [0] [0, 1, 2] rfl rfl rfl rfl⟩
 ·intro L a w hv K Q hK
  obtain ⟨p1, p2, hs⟩ := hv
  refine wpOp_go rfl rfl hs (OpT_move rfl rfl rfl rfl) ?_
  rintro _ rfl a' w' hs'
  exact hK a' w' ⟨p1, p2, hs'.putF (i := 3) rfl [0] [0, 1, 2] rfl rfl rfl rfl⟩
 ·intro L a w hv K Q hK
  obtain ⟨p1, p2, hs⟩ := hv
  refine wpOp_go rfl rfl hs (OpT_idxS rfl rfl rfl rfl rfl slF30 (i := 0) rfl hx1) ?_
  rintro _ ⟨p1', rfl⟩ a' w' hs'
  exact hK a' w' ⟨p1', p2, hs'.putF (i := 4) rfl [0] [0, 3, 2] rfl rfl rfl rfl⟩
 ·intro L a w hv K Q hK
  obtain ⟨p1, p2, hs⟩ := hv
  refine wpOp_go rfl rfl hs (OpT_loadP rfl rfl rfl rfl tyF5 (i := 1) rfl rfl) ?_
  rintro _ rfl a' w' hs'
  exact hK a' w' ⟨p1, p2, hs'.putF (i := 5) rfl [0] [0, 1, 2] rfl rfl rfl rfl⟩
 ·intro L a w hv K Q hK
  obtain ⟨p1, p2, hs⟩ := hv
  refine wpOp_go rfl rfl hs (OpT_cnv rfl rfl rfl rfl (cnv_u8_i (n := y1) Try.underlying5 Try.underlying3)) ?_
  rintro _ rfl a' w' hs'
  exact hK a' w' ⟨p1, p2, hs'.putF (i := 6) rfl [0] [0, 1, 2] rfl rfl rfl rfl⟩
 ·intro L a w hv K Q hK
  obtain ⟨p1, p2, hs⟩ := hv
  refine wpOp_go rfl rfl hs (OpT_loadC rfl rfl rfl rfl tyF30 (i := 0) rfl rfl) ?_
  rintro _ rfl a' w' hs'
  exact hK a' w' ⟨p1, p2, hs'.putF (i := 7) rfl [0] [0, 1, 2] rfl rfl rfl rfl⟩
 ·intro L a w hv K Q hK
  obtain ⟨p1, p2, hs⟩ := hv
  refine wpOp_go rfl rfl hs (OpT_move rfl rfl rfl rfl) ?_
  rintro _ rfl a' w' hs'
  exact hK a' w' ⟨p1, p2, hs'.putF (i := 8) rfl [0] [0, 1, 2] rfl rfl rfl rfl⟩
 ·intro L a w hv K Q hK
  obtain ⟨p1, p2, hs⟩ := hv
  refine wpOp_go rfl rfl hs (OpT_bin rfl rfl rfl rfl rfl (bin_add_i (a := ip0) (b := (1 : Int)))) ?_
  rintro _ rfl a' w' hs'
  exact hK a' w' ⟨p1, p2, hs'.putF (i := 9) rfl [0] [0, 1, 2] rfl rfl rfl rfl⟩
 ·intro L a w hv K Q hK
  obtain ⟨p1, p2, hs⟩ := hv
  refine wpOp_go rfl rfl hs (OpT_idxS rfl rfl rfl rfl rfl slF30 (i := 0) rfl hx2) ?_
  rintro _ ⟨p2', rfl⟩ a' w' hs'
  exact hK a' w' ⟨p1, p2', hs'.putF (i := 10) rfl [0] [0, 1, 3] rfl rfl rfl rfl⟩
 ·intro L a w hv K Q hK
  obtain ⟨p1, p2, hs⟩ := hv
  refine wpOp_go rfl rfl hs (OpT_loadP rfl rfl rfl rfl tyF5 (i := 2) rfl rfl) ?_
  rintro _ rfl a' w' hs'
  exact hK a' w' ⟨p1, p2, hs'.putF (i := 11) rfl [0] [0, 1, 2] rfl rfl rfl rfl⟩
 ·intro L a w hv K Q hK
  obtain ⟨p1, p2, hs⟩ := hv
  refine wpOp_go rfl rfl hs (OpT_cnv rfl rfl rfl rfl (cnv_u8_i (n := y2) Try.underlying5 Try.underlying3)) ?_
  rintro _ rfl a' w' hs'
  exact hK a' w' ⟨p1, p2, hs'.putF (i := 12) rfl [0] [0, 1, 2] rfl rfl rfl rfl⟩
 ·intro L a w hv K Q hK
  obtain ⟨p1, p2, hs⟩ := hv
  refine wpOp_go rfl rfl hs (OpT_bin rfl rfl rfl rfl rfl (bin_shl_i_u64 (a := i8 y2) (n := (8 : UInt64)))) ?_
  rintro _ rfl a' w' hs'
  exact hK a' w' ⟨p1, p2, hs'.putF (i := 13) rfl [0] [0, 1, 2] rfl rfl rfl rfl⟩
 ·intro L a w hL hv
  rw [allTrue hL] at hv
  obtain ⟨p1, p2, hs⟩ := hv
  refine (show TA _ _ _ 12 ⟨[(8, some (vI (i8 y1))), (15, some (vI (shli (i8 y2) ((8 : UInt64).toNat))))], [some (cellsR b_arg1 30 [varg11])], [Fact.sl u8S varg11 arg1]⟩ from ?_) a w (hs.wkS [8, 15] [0] [0] rfl rfl rfl rfl)
  clear hs hL
  refine TA_step htb (by kernel_rfl) rfl rfl (OpT_bin rfl rfl rfl rfl rfl (bin_or_i (a := i8 y1) (b := shli (i8 y2) ((8 : UInt64).toNat)))) ?_
  refine TA_step htb (by kernel_rfl) rfl rfl (OpT_assign rfl rfl rfl rfl) ?_
  refine TA_end rfl ?_
  refine Tk_wkS (fr' := [(3, some (vI (ori (i8 y1) (shli (i8 y2) ((8 : UInt64).toNat)))))]) (own' := [some (cellsR b_arg1 30 [varg11])]) (shr' := [Fact.sl u8S varg11 arg1]) [3] [0] [0] rfl rfl rfl rfl ?_
  obtain rfl := Option.some.inj h
  exact Tk_retV rfl rfl (resA (vs := [vI (ori (i8 y1) (shli (i8 y2) ((8 : UInt64).toNat)))]) rfl ⟨rfl, trivial⟩) [0] [] rfl rfl rfl ⟨rfl, rfl, rfl⟩

set_option maxRecDepth 100000 in
set_option maxHeartbeats 4000000 in
theorem w_cons_Size {b : List UInt8} {vb1 : Value} {r : (Int × Int × Int)} (h : cons_Size b = some r) :
  Ctr Try.prog 23 #[vb1] [] [Fact.sl u8S vb1 b]
   (fun rv own shr => rv = .tuple #[vI r.1, vI r.2.1, vI r.2.2] ∧ own = [] ∧ shr = []) := by
 unfold cons_Size at h
 refine Ctr.mk (args := [vb1]) Try.func23 rfl rfl (fun R0 w0 B => ?_)
 refine Tk_seq (Tk_region (Tops_ex rfl (OpT_box1 rfl rfl rfl rfl (is_sl (i := 0) rfl)) fun b1 => ?_))
 refine Tops_step rfl (OpT_assign rfl rfl rfl rfl) ?_
 refine Tops_step rfl (OpT_assign rfl rfl rfl rfl) ?_
 refine Tops_step rfl (OpT_assign rfl rfl rfl rfl) ?_
 refine Tops_nil (Tk_wkS (fr' := [(1, some (.pointer (some ⟨b1, 0, none⟩)))]) (own' := [some (cellsR b1 30 [vb1])]) (shr' := [Fact.sl u8S vb1 b]) [1] [0] [0] rfl rfl rfl rfl ?_)
 refine Tk_seq (Tk_seq (Tk_region (Tops_step rfl (OpT_loadC rfl rfl rfl rfl tyF30 (i := 0) rfl rfl) ?_)))
 refine Tops_step rfl (OpT_lenS rfl rfl rfl rfl Try.underlying30 (i := 0) rfl) ?_
 refine Tops_step rfl (OpT_bin rfl rfl rfl rfl rfl (bin_lss_i (a := len b) (b := (12 : Int)))) ?_
 refine Tops_nil (Tk_wkS (fr' := [(1, some (.pointer (some ⟨b1, 0, none⟩))), (8, some (vB (decide ((len b) < (12 : Int)))))]) (own' := [some (cellsR b1 30 [vb1])]) (shr' := [Fact.sl u8S vb1 b]) [1, 8] [0] [0] rfl rfl rfl rfl ?_)
 rcases Bool.eq_false_or_eq_true (decide ((len b) < (12 : Int))) with hg1 | hg1
 ·replace h := br_t hg1 h
  refine Tk_condT (congrArg (fun b => some (Value.bool b)) hg1) ?_
  refine Tk_seq (Tk_region (Tops_step rfl (OpT_assign rfl rfl rfl rfl) ?_))
  refine Tops_step rfl (OpT_assign rfl rfl rfl rfl) ?_
  refine Tops_step rfl (OpT_assign rfl rfl rfl rfl) ?_
  refine Tops_nil (Tk_wkS (fr' := [(2, some (vI (0 : Int))), (3, some (vI (0 : Int))), (4, some (vI (0 : Int)))]) (own' := []) (shr' := []) [2, 3, 4] [] [] rfl rfl rfl rfl ?_)
  obtain rfl := Option.some.inj h
  exact Tk_retV rfl rfl (resA (vs := [vI (0 : Int), vI (0 : Int), vI (0 : Int)]) rfl ⟨rfl, rfl, rfl, trivial⟩) [] [] rfl rfl rfl ⟨rfl, rfl, rfl⟩
 ·replace h := br_f hg1 h
  refine Tk_condF (congrArg (fun b => some (Value.bool b)) hg1) ?_
  refine Tk_skip (Tk_seq (Tk_region (Tops_step rfl (OpT_makeFunc (vs := [.pointer (some ⟨b1, 0, none⟩)]) rfl rfl rfl rfl) ?_)))
  refine Tops_step rfl (OpT_assign rfl rfl rfl rfl) ?_
  refine Tops_nil (Tk_wkS (fr' := [(5, some (.func (.func 39) #[] #[.pointer (some ⟨b1, 0, none⟩)]))]) (own' := [some (cellsR b1 30 [vb1])]) (shr' := [Fact.sl u8S vb1 b]) [5] [0] [0] rfl rfl rfl rfl ?_)
  refine Tk_seq (Tk_region (Tops_step rfl (OpT_move rfl rfl rfl rfl) ?_))
  obtain ⟨size1, hx1, h⟩ := ob_e h
  refine Tops_exP rfl (OpT_callP [1] (w_cons_Size_1 hx1) [0] [0] rfl rfl rfl rfl rfl callee39 rfl rfl rfl rfl rfl) ?_
  rintro _ ⟨_, _, _, ⟨rfl, rfl, rfl⟩, rfl⟩
  refine Tops_step rfl (OpT_move rfl rfl rfl rfl) ?_
  obtain ⟨size2, hx2, h⟩ := ob_e h
  refine Tops_exP rfl (OpT_callP [1] (w_cons_Size_1 hx2) [0] [0] rfl rfl rfl rfl rfl callee39 rfl rfl rfl rfl rfl) ?_
  rintro _ ⟨_, _, _, ⟨rfl, rfl, rfl⟩, rfl⟩
  refine Tops_step rfl (OpT_move rfl rfl rfl rfl) ?_
  obtain ⟨size3, hx3, h⟩ := ob_e h
  refine Tops_exP rfl (OpT_callP [1] (w_cons_Size_1 hx3) [0] [0] rfl rfl rfl rfl rfl callee39 rfl rfl rfl rfl rfl) ?_
  rintro _ ⟨_, _, _, ⟨rfl, rfl, rfl⟩, rfl⟩
  refine Tops_step rfl (OpT_move rfl rfl rfl rfl) ?_
  obtain ⟨size4, hx4, h⟩ := ob_e h
  refine Tops_exP rfl (OpT_callP [1] (w_cons_Size_1 hx4) [0] [0] rfl rfl rfl rfl rfl callee39 rfl rfl rfl rfl rfl) ?_
  rintro _ ⟨_, _, _, ⟨rfl, rfl, rfl⟩, rfl⟩
  refine Tops_step rfl (OpT_bin rfl rfl rfl rfl rfl (bin_shl_i_u64 (a := size4) (n := (16 : UInt64)))) ?_
  refine Tops_step rfl (OpT_bin rfl rfl rfl rfl rfl (bin_or_i (a := size3) (b := shli size4 ((16 : UInt64).toNat)))) ?_
  refine Tops_step rfl (OpT_assign rfl rfl rfl rfl) ?_
  refine Tops_step rfl (OpT_assign rfl rfl rfl rfl) ?_
  refine Tops_step rfl (OpT_assign rfl rfl rfl rfl) ?_
  refine Tops_nil (Tk_wkS (fr' := [(2, some (vI size1)), (3, some (vI size2)), (4, some (vI (ori size3 (shli size4 ((16 : UInt64).toNat)))))]) (own' := []) (shr' := []) [2, 3, 4] [] [] rfl rfl rfl rfl ?_)
  obtain rfl := Option.some.inj h
  exact Tk_retV rfl rfl (resA (vs := [vI size1, vI size2, vI (ori size3 (shli size4 ((16 : UInt64).toNat)))]) rfl ⟨rfl, rfl, rfl, trivial⟩) [] [] rfl rfl rfl ⟨rfl, rfl, rfl⟩

set_option maxRecDepth 100000 in
set_option maxHeartbeats 4000000 in
theorem w_cons_Given0 {sp1 : Stream} {bufs : List (List Seg)} {vsp11 : Value} {vbufs1 : Value} {r : (Stream × (List UInt32) × Int)} (h : cons_Given0 sp1 bufs = some r) :
  Ctr Try.prog 15 #[.pointer none, .agg #[vsp11], vbufs1] [] [Fact.sl u8S vsp11 sp1.Wait, Fact.sl (Shape.slice SegS) vbufs1 bufs]
   (fun rv own shr => ∃ (w1 : Value), ∃ (w2 : Value), rv = .tuple #[.agg #[w1], w2, vI r.2.2] ∧ own = [(rowS u8S w1 r.1.Wait), (rowS u32S w2 r.2.1)] ∧ shr = []) := by
 unfold cons_Given0 at h
 refine Ctr.mk (args := [.pointer none, .agg #[vsp11], vbufs1]) Try.func15 rfl rfl (fun R0 w0 B => ?_)
 refine Tk_seq (Tk_region (Tops_ex rfl (OpT_box rfl rfl rfl rfl) fun b1 => ?_))
 refine Tops_ex rfl (OpT_alloc rfl rfl rfl tyZ40) fun b2 => ?_
 refine Tops_step rfl (OpT_assign rfl rfl rfl rfl) ?_
 refine Tops_step rfl (OpT_assign rfl rfl rfl rfl) ?_
 refine Tops_nil (Tk_wkS (fr' := [(0, some (.pointer none)), (2, some (vbufs1)), (4, some (.pointer (some ⟨b1, 0, none⟩))), (6, some (.pointer (some ⟨b2, 0, none⟩)))]) (own' := [some (cellsR b1 40 [vsp11]), some (cellsR b2 40 [.slice none 0 0])]) (shr' := [Fact.sl u8S vsp11 sp1.Wait, Fact.sl (Shape.slice SegS) vbufs1 bufs]) [0, 2, 4, 6] [0, 1] [0, 1] rfl rfl rfl rfl ?_)
 refine Tk_seq (Tk_seq (Tk_region (Tops_step rfl (OpT_move rfl rfl rfl rfl) ?_)))
 refine Tops_step rfl (OpT_ptrNil rfl rfl rfl (.inl rfl) rfl rfl ptrF32) ?_
 refine Tops_nil (Tk_wkS (fr' := [(0, some (.pointer none)), (2, some (vbufs1)), (4, some (.pointer (some ⟨b1, 0, none⟩))), (6, some (.pointer (some ⟨b2, 0, none⟩))), (22, some (vB true))]) (own' := [some (cellsR b1 40 [vsp11]), some (cellsR b2 40 [.slice none 0 0])]) (shr' := [Fact.sl u8S vsp11 sp1.Wait, Fact.sl (Shape.slice SegS) vbufs1 bufs]) [0, 2, 4, 6, 22] [0, 1] [0, 1] rfl rfl rfl rfl ?_)
 refine Tk_condT rfl ?_
 refine Tk_seq (Tk_region (Tops_step rfl (OpT_build (v := .agg #[.slice none 0 0]) rfl rfl rfl rfl (bldV (by kernel_rfl))) ?_))
 refine Tops_step rfl (OpT_storeC (cs' := [.slice none 0 0]) rfl rfl rfl rfl tyF40 (i := 1) rfl rfl rfl (one_of rfl) rfl) ?_
 refine Tops_step rfl (OpT_assign rfl rfl rfl rfl) ?_
 refine Tops_step rfl (OpT_assign rfl rfl rfl rfl) ?_
 refine Tops_nil (Tk_wkS (fr' := [(6, some (.pointer (some ⟨b2, 0, none⟩))), (7, some (.slice none 0 0)), (8, some (vI (1 : Int)))]) (own' := [some (cellsR b2 40 [.slice none 0 0])]) (shr' := []) [6, 7, 8] [1] [] rfl rfl rfl rfl ?_)
 refine Tk_nilrow u8S ?_
 refine Tk_nilrow u32S ?_
 obtain rfl := Option.some.inj h
 exact Tk_retV rfl rfl (resA (vs := [.agg #[.slice none 0 0], .slice none 0 0, vI (1 : Int)]) rfl ⟨⟨_, 0, _, _, _, rfl, rfl, .inl ⟨tyF40, rfl, rfl⟩⟩, rfl, rfl, trivial⟩) [1, 2] [] rfl rfl rfl ⟨(.slice none 0 0), (.slice none 0 0), rfl, rfl, rfl⟩

set_option maxRecDepth 100000 in
set_option maxHeartbeats 4000000 in
theorem w_cons_Taken0 {l : List Seg} {vl1 : Value} {r : ((List UInt8) × Int)} (h : cons_Taken0 l = some r) :
  Ctr Try.prog 25 #[.pointer none, vl1] [] [Fact.sl SegS vl1 l]
   (fun rv own shr => ∃ (w1 : Value), rv = .tuple #[w1, vI r.2] ∧ own = [(rowS u8S w1 r.1)] ∧ shr = []) := by
 unfold cons_Taken0 at h
 refine Ctr.mk (args := [.pointer none, vl1]) Try.func25 rfl rfl (fun R0 w0 B => ?_)
 refine Tk_seq (Tk_region (Tops_step rfl (OpT_assign rfl rfl rfl rfl) ?_))
 refine Tops_step rfl (OpT_assign rfl rfl rfl rfl) ?_
 refine Tops_nil (Tk_wkS (fr' := [(0, some (.pointer none)), (1, some (vl1))]) (own' := []) (shr' := [Fact.sl SegS vl1 l]) [0, 1] [] [0] rfl rfl rfl rfl ?_)
 refine Tk_seq (Tk_seq (Tk_region (Tops_step rfl (OpT_move rfl rfl rfl rfl) ?_)))
 refine Tops_step rfl (OpT_ptrNil rfl rfl rfl (.inl rfl) rfl rfl ptrF32) ?_
 refine Tops_nil (Tk_wkS (fr' := [(0, some (.pointer none)), (1, some (vl1)), (7, some (vB true))]) (own' := []) (shr' := [Fact.sl SegS vl1 l]) [0, 1, 7] [] [0] rfl rfl rfl rfl ?_)
 refine Tk_condT rfl ?_
 refine Tk_seq (Tk_region (Tops_step rfl (OpT_assign rfl rfl rfl rfl) ?_))
 refine Tops_step rfl (OpT_assign rfl rfl rfl rfl) ?_
 refine Tops_nil (Tk_wkS (fr' := [(4, some (.slice none 0 0)), (5, some (vI (1 : Int)))]) (own' := []) (shr' := []) [4, 5] [] [] rfl rfl rfl rfl ?_)
 refine Tk_nilrow u8S ?_
 obtain rfl := Option.some.inj h
 exact Tk_retV rfl rfl (resA (vs := [.slice none 0 0, vI (1 : Int)]) rfl ⟨rfl, rfl, trivial⟩) [0] [] rfl rfl rfl ⟨(.slice none 0 0), rfl, rfl, rfl⟩

set_option maxRecDepth 100000 in
set_option maxHeartbeats 4000000 in
theorem w_cons_Joinn0 {bufs : List (List Seg)} {written : List UInt32} {vbufs1 : Value} {vwritten1 : Value} {r : ((List UInt8) × Int)} (h : cons_Joinn0 bufs written = some r) :
  Ctr Try.prog 22 #[.pointer none, vbufs1, vwritten1] [] [Fact.sl (Shape.slice SegS) vbufs1 bufs, Fact.sl u32S vwritten1 written]
   (fun rv own shr => ∃ (w1 : Value), rv = .tuple #[w1, vI r.2] ∧ own = [(rowS u8S w1 r.1)] ∧ shr = []) := by
 unfold cons_Joinn0 at h
 refine Ctr.mk (args := [.pointer none, vbufs1, vwritten1]) Try.func22 rfl rfl (fun R0 w0 B => ?_)
 refine Tk_seq (Tk_region (Tops_step rfl (OpT_assign rfl rfl rfl rfl) ?_))
 refine Tops_step rfl (OpT_assign rfl rfl rfl rfl) ?_
 refine Tops_nil (Tk_wkS (fr' := [(0, some (.pointer none)), (1, some (vbufs1)), (2, some (vwritten1))]) (own' := []) (shr' := [Fact.sl (Shape.slice SegS) vbufs1 bufs, Fact.sl u32S vwritten1 written]) [0, 1, 2] [] [0, 1] rfl rfl rfl rfl ?_)
 refine Tk_seq (Tk_seq (Tk_region (Tops_step rfl (OpT_move rfl rfl rfl rfl) ?_)))
 refine Tops_step rfl (OpT_ptrNil rfl rfl rfl (.inl rfl) rfl rfl ptrF32) ?_
 refine Tops_nil (Tk_wkS (fr' := [(0, some (.pointer none)), (1, some (vbufs1)), (2, some (vwritten1)), (20, some (vB true))]) (own' := []) (shr' := [Fact.sl (Shape.slice SegS) vbufs1 bufs, Fact.sl u32S vwritten1 written]) [0, 1, 2, 20] [] [0, 1] rfl rfl rfl rfl ?_)
 refine Tk_condT rfl ?_
 refine Tk_seq (Tk_region (Tops_step rfl (OpT_assign rfl rfl rfl rfl) ?_))
 refine Tops_step rfl (OpT_assign rfl rfl rfl rfl) ?_
 refine Tops_nil (Tk_wkS (fr' := [(6, some (.slice none 0 0)), (7, some (vI (1 : Int)))]) (own' := []) (shr' := []) [6, 7] [] [] rfl rfl rfl rfl ?_)
 refine Tk_nilrow u8S ?_
 obtain rfl := Option.some.inj h
 exact Tk_retV rfl rfl (resA (vs := [.slice none 0 0, vI (1 : Int)]) rfl ⟨rfl, rfl, trivial⟩) [0] [] rfl rfl rfl ⟨(.slice none 0 0), rfl, rfl, rfl⟩
end Go.Proofs.Ytkjmmbmlapmkbaa
