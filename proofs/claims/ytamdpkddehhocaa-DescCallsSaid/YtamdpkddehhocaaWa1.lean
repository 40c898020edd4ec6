/- The functions do what the plain words say: each is walked once. No statement of the seat is proved here; no condition. -/
import Derived.Test.YtamdpkddehhocaaMo1
import Derived.Test.YtamdpkddehhocaaFc
namespace Go.Proofs.Ytamdpkddehhocaa

set_option maxRecDepth 100000 in
set_option maxHeartbeats 4000000 in
theorem w_desc_raw_put {rp0 : List UInt8} {atp1 : Int} {np2 : Int} {vp3 : UInt64} {b_rp0 : Nat} {r : (List UInt8)} (h : desc_raw_put rp0 atp1 np2 vp3 = some r) :
    Ctr Try.prog 38 #[.pointer (some ⟨b_rp0, 0, none⟩), vI atp1, vI np2, vU64 vp3] [(cellsR b_rp0 60 (rp0.map vU8))] []
      (fun rv own shr => rv = .tuple #[] ∧ own = [(cellsR b_rp0 60 (r.map vU8))] ∧ shr = []) := by
  unfold desc_raw_put at h
  refine Ctr.mk (args := [.pointer (some ⟨b_rp0, 0, none⟩), vI atp1, vI np2, vU64 vp3]) Try.func38 rfl rfl (fun R0 w0 B => ?_)
  refine Tk_seq ?_
  refine Tk_region ?_
  refine Tops_step rfl (OpT_move rfl rfl rfl rfl) ?_
  refine Tops_step rfl (OpT_move rfl rfl rfl rfl) ?_
  refine Tops_nil ?_
  refine Tk_wkS (fr' := [(0, some (.pointer (some ⟨b_rp0, 0, none⟩))), (1, some (vI atp1)), (3, some (vU64 vp3)), (9, some (vI np2)), (10, some (vI (0 : Int)))]) (own' := [some (cellsR b_rp0 60 (rp0.map vU8))]) (shr' := []) [0, 1, 3, 9, 10] [0] [] rfl rfl rfl rfl ?_
  refine Tk_block ?_
  refine Tk_loopS (σ := (List UInt8) × Int) [0, 1, 3, 9, 10] [0] [] (fun s => ⟨[(0, some (.pointer (some ⟨b_rp0, 0, none⟩))), (1, some (vI atp1)), (3, some (vU64 vp3)), (9, some (vI np2)), (10, some (vI s.2))], [some (cellsR b_rp0 60 (s.1.map vU8))], []⟩) (fun nf s => desc_raw_putL1 atp1 np2 vp3 nf s.1 s.2 = some r) fuel (rp0, (0 : Int)) h rfl rfl rfl rfl rfl (fun s h => by cases h) ?_
  rintro nf ⟨m1, x1⟩ h
  replace h : desc_raw_putL1B atp1 np2 vp3 (desc_raw_putL1 atp1 np2 vp3 nf) m1 x1 = some r := h
  unfold desc_raw_putL1B at h
  refine Tk_seq ?_
  refine Tk_region ?_
  refine Tops_step rfl (OpT_bin rfl rfl rfl rfl rfl (bin_lss_i (a := x1) (b := np2))) ?_
  refine Tops_nil ?_
  refine Tk_seq ?_
  rcases Bool.eq_false_or_eq_true (decide (x1 < np2)) with hg1 | hg1
  · replace h := br_t hg1 h
    refine Tk_condT (congrArg (fun b => some (Value.bool b)) hg1) ?_
    refine Tk_skip ?_
    refine Tk_seq ?_
    refine Tk_block ?_
    refine Tk_seq ?_
    refine Tk_region ?_
    refine Tops_step rfl (OpT_move rfl rfl rfl rfl) ?_
    refine Tops_step rfl (OpT_assign rfl rfl rfl rfl) ?_
    refine Tops_nil ?_
    refine Tk_wkS (fr' := [(0, some (.pointer (some ⟨b_rp0, 0, none⟩))), (1, some (vI atp1)), (3, some (vU64 vp3)), (9, some (vI np2)), (10, some (vI x1)), (8, some (vI x1))]) (own' := [some (cellsR b_rp0 60 (m1.map vU8))]) (shr' := []) [0, 1, 3, 9, 10, 8] [0] [] rfl rfl rfl rfl ?_
    refine Tk_drawT (by kernel_rfl) ?_
    refine TA_tb [0, 0, 0, 6, 0, 0, 32, 112, 240, 1, 1023, 2047] (by kernel_rfl) fun htb => ?_
    obtain ⟨hc1, h⟩ := chk_e h
    refine TA_seg (lo := 0) (hi := 10) htb rfl rfl (by kernel_rfl) (fun c L a w => Sat c ⟨[(0, some (.pointer (some ⟨b_rp0, 0, none⟩))), (1, some (vI atp1)), (3, some (vU64 vp3)), (9, some (vI np2)), (10, some (vI x1)), (8, some (vI x1)), (13, bif L 0 then some (.pointer (some ⟨b_rp0, 0, none⟩)) else none), (14, bif L 1 then some (vI atp1) else none), (15, bif L 2 then some (vI x1) else none), (16, bif L 3 then some (vI (wi (atp1 + x1))) else none), (17, bif L 4 then some (vU64 vp3) else none), (18, bif L 5 then some (vI x1) else none), (19, bif L 6 then some (vI (wi ((8 : Int) * x1))) else none), (20, bif L 7 then some (vU64 (shr64 vp3 ((wi ((8 : Int) * x1)).toNat))) else none), (21, bif L 8 then some (vU8 ((shr64 vp3 ((wi ((8 : Int) * x1)).toNat)).toUInt8)) else none), (22, bif L 9 then some (.pointer (some ⟨b_rp0, 0, none⟩)) else none)], [(some (cellsR b_rp0 60 (m1.map vU8)) : Option Res)], []⟩ a w) [([], [9]), ([], [3]), ([], [3]), ([1, 2], []), ([], [7, 8]), ([], [6, 7, 8]), ([5], [7, 8]), ([4, 5, 6], [8]), ([4, 5, 6, 7], []), ([0], [])] rfl (by kernel_rfl) ?_ (steps_cons ?_ (steps_cons ?_ (steps_cons ?_ (steps_cons ?_ (steps_cons ?_ (steps_cons ?_ (steps_cons ?_ (steps_cons ?_ (steps_cons ?_ (steps_cons ?_ (steps_nil))))))))))) ?_
    · intro a w hs
      exact hs.startF [13, 14, 15, 16, 17, 18, 19, 20, 21, 22] [0] [] rfl rfl rfl rfl
    · intro L a w hv K Q hK
      have hs := hv
      refine wpOp_go rfl rfl hs (OpT_move rfl rfl rfl rfl) ?_
      rintro _ rfl a' w' hs'
      exact hK a' w' (hs'.putF (i := 6) rfl [0] [] rfl rfl rfl rfl)
    · intro L a w hv K Q hK
      have hs := hv
      refine wpOp_go rfl rfl hs (OpT_move rfl rfl rfl rfl) ?_
      rintro _ rfl a' w' hs'
      exact hK a' w' (hs'.putF (i := 7) rfl [0] [] rfl rfl rfl rfl)
    · intro L a w hv K Q hK
      have hs := hv
      refine wpOp_go rfl rfl hs (OpT_move rfl rfl rfl rfl) ?_
      rintro _ rfl a' w' hs'
      exact hK a' w' (hs'.putF (i := 8) rfl [0] [] rfl rfl rfl rfl)
    · intro L a w hv K Q hK
      have hs := hv
      refine wpOp_go rfl rfl hs (OpT_bin rfl rfl rfl rfl rfl (bin_add_i (a := atp1) (b := x1))) ?_
      rintro _ rfl a' w' hs'
      exact hK a' w' (hs'.putF (i := 9) rfl [0] [] rfl rfl rfl rfl)
    · intro L a w hv K Q hK
      have hs := hv
      refine wpOp_go rfl rfl hs (OpT_move rfl rfl rfl rfl) ?_
      rintro _ rfl a' w' hs'
      exact hK a' w' (hs'.putF (i := 10) rfl [0] [] rfl rfl rfl rfl)
    · intro L a w hv K Q hK
      have hs := hv
      refine wpOp_go rfl rfl hs (OpT_move rfl rfl rfl rfl) ?_
      rintro _ rfl a' w' hs'
      exact hK a' w' (hs'.putF (i := 11) rfl [0] [] rfl rfl rfl rfl)
    · intro L a w hv K Q hK
      have hs := hv
      refine wpOp_go rfl rfl hs (OpT_bin rfl rfl rfl rfl rfl (bin_mul_i (a := (8 : Int)) (b := x1))) ?_
      rintro _ rfl a' w' hs'
      exact hK a' w' (hs'.putF (i := 12) rfl [0] [] rfl rfl rfl rfl)
    · intro L a w hv K Q hK
      have hs := hv
      refine wpOp_go rfl rfl hs (OpT_bin rfl rfl rfl rfl rfl (bin_shr_u64_i64 (a := vp3) (n := wi ((8 : Int) * x1)) hc1)) ?_
      rintro _ rfl a' w' hs'
      exact hK a' w' (hs'.putF (i := 13) rfl [0] [] rfl rfl rfl rfl)
    · intro L a w hv K Q hK
      have hs := hv
      refine wpOp_go rfl rfl hs (OpT_cnv rfl rfl rfl rfl (cnv_u64_u8 (n := shr64 vp3 ((wi ((8 : Int) * x1)).toNat)) Try.underlying26 Try.underlying5)) ?_
      rintro _ rfl a' w' hs'
      exact hK a' w' (hs'.putF (i := 14) rfl [0] [] rfl rfl rfl rfl)
    · intro L a w hv K Q hK
      have hs := hv
      refine wpOp_go rfl rfl hs (OpT_nilCheckP rfl rfl rfl rfl) ?_
      rintro _ rfl a' w' hs'
      exact hK a' w' (hs'.putF (i := 15) rfl [0] [] rfl rfl rfl rfl)
    · intro L a w hL hv
      rw [allTrue hL] at hv
      have hs := hv
      refine (show TA _ _ _ 10 ⟨[(0, some (.pointer (some ⟨b_rp0, 0, none⟩))), (1, some (vI atp1)), (3, some (vU64 vp3)), (9, some (vI np2)), (10, some (vI x1)), (16, some (vI (wi (atp1 + x1)))), (21, some (vU8 ((shr64 vp3 ((wi ((8 : Int) * x1)).toNat)).toUInt8))), (22, some (.pointer (some ⟨b_rp0, 0, none⟩)))], [some (cellsR b_rp0 60 (m1.map vU8))], []⟩ from ?_) a w (hs.wkS [0, 1, 3, 9, 10, 16, 21, 22] [0] [] rfl rfl rfl rfl)
      clear hs hL
      obtain ⟨hc2, h⟩ := chk_e h
      refine TA_step htb (by kernel_rfl) rfl rfl (OpT_indexC rfl rfl rfl rfl rfl arrF60 hc2) ?_
      obtain ⟨hc3, h⟩ := chk_e h
      refine TA_step htb (by kernel_rfl) rfl rfl (OpT_storeLA (f := vU8) (u := (shr64 vp3 ((wi ((8 : Int) * x1)).toNat)).toUInt8) rfl rfl rfl rfl tyF5 (i := 0) rfl (fun _ => ⟨rfl, rfl⟩) hc3) ?_
      refine TA_end rfl ?_
      refine Tk_wkS (fr' := [(0, some (.pointer (some ⟨b_rp0, 0, none⟩))), (1, some (vI atp1)), (3, some (vU64 vp3)), (9, some (vI np2)), (10, some (vI x1))]) (own' := [some (cellsR b_rp0 60 ((m1.set (wi (atp1 + x1)).toNat ((shr64 vp3 ((wi ((8 : Int) * x1)).toNat)).toUInt8)).map vU8))]) (shr' := []) [0, 1, 3, 9, 10] [0] [] rfl rfl rfl rfl ?_
      refine Tk_blk ?_
      refine Tk_region ?_
      refine Tops_step rfl (OpT_bin rfl rfl rfl rfl rfl (bin_add_i (a := x1) (b := (1 : Int)))) ?_
      refine Tops_step rfl (OpT_move rfl rfl rfl rfl) ?_
      refine Tops_nil ?_
      refine Tk_wkS (fr' := [(0, some (.pointer (some ⟨b_rp0, 0, none⟩))), (1, some (vI atp1)), (3, some (vU64 vp3)), (9, some (vI np2)), (10, some (vI (wi (x1 + (1 : Int)))))]) (own' := [some (cellsR b_rp0 60 ((m1.set (wi (atp1 + x1)).toNat ((shr64 vp3 ((wi ((8 : Int) * x1)).toNat)).toUInt8)).map vU8))]) (shr' := []) [0, 1, 3, 9, 10] [0] [] rfl rfl rfl rfl ?_
      exact Tk_backS (m1.set (wi (atp1 + x1)).toNat ((shr64 vp3 ((wi ((8 : Int) * x1)).toNat)).toUInt8), wi (x1 + (1 : Int))) h [0, 1, 3, 9, 10] [0] [] rfl rfl rfl rfl rfl
  · replace h := br_f hg1 h
    refine Tk_condF (congrArg (fun b => some (Value.bool b)) hg1) ?_
    refine Tk_exit _ rfl ?_
    obtain rfl := Option.some.inj h
    exact Tk_endV rfl (resA (vs := []) rfl trivial) [0] [] rfl rfl rfl ⟨rfl, rfl, rfl⟩

set_option maxRecDepth 100000 in
set_option maxHeartbeats 4000000 in
theorem w_desc_Bytes {dp0 : Desc} {r : (List UInt8)} (h : desc_Bytes dp0 = some r) :
    Ctr Try.prog 13 #[.agg #[vU64 dp0.Addr, vU32 dp0.Len, vU16 dp0.Flags, vU16 dp0.Next]] [] []
      (fun rv own shr => ∃ (w1 : Value), rv = w1 ∧ own = [(rowS u8S w1 r)] ∧ shr = []) := by
  unfold desc_Bytes at h
  refine Ctr.mk (args := [.agg #[vU64 dp0.Addr, vU32 dp0.Len, vU16 dp0.Flags, vU16 dp0.Next]]) Try.func13 rfl rfl (fun R0 w0 B => ?_)
  refine Tk_seq ?_
  refine Tk_region ?_
  refine Tops_ex rfl (OpT_box rfl rfl rfl rfl) fun b1 => ?_
  refine Tops_step rfl (OpT_assign rfl rfl rfl rfl) ?_
  refine Tops_nil ?_
  refine Tk_wkS (fr' := [(1, some (.pointer (some ⟨b1, 0, none⟩)))]) (own' := [some (cellsR b1 29 [vU64 dp0.Addr, vU32 dp0.Len, vU16 dp0.Flags, vU16 dp0.Next])]) (shr' := []) [1] [0] [] rfl rfl rfl rfl ?_
  refine Tk_seq ?_
  refine Tk_region ?_
  refine Tops_ex rfl (OpT_alloc rfl rfl rfl tyZ60) fun b2 => ?_
  refine Tops_nil ?_
  refine Tk_seq ?_
  refine Tk_region ?_
  refine Tops_step rfl (OpT_fieldC rfl rfl rfl rfl fldF29x0) ?_
  refine Tops_step rfl (OpT_loadC rfl rfl rfl rfl tyF26 (i := 0) rfl rfl) ?_
  obtain ⟨put1, hx1, h⟩ := ob_e h
  refine Tops_exP rfl (OpT_call (w_desc_raw_put hx1) [1] [] rfl rfl rfl rfl rfl callee38 rfl rfl rfl rfl) ?_
  rintro _ ⟨_, _, _, ⟨rfl, rfl, rfl⟩, rfl⟩
  refine Tops_nil ?_
  refine Tk_wkS (fr' := [(1, some (.pointer (some ⟨b1, 0, none⟩))), (3, some (.pointer (some ⟨b2, 0, none⟩)))]) (own' := [some (cellsR b1 29 [vU64 dp0.Addr, vU32 dp0.Len, vU16 dp0.Flags, vU16 dp0.Next]), some (cellsR b2 60 (put1.map vU8))]) (shr' := []) [1, 3] [0, 2] [] rfl rfl rfl rfl ?_
  refine Tk_seq ?_
  refine Tk_region ?_
  refine Tops_step rfl (OpT_fieldC rfl rfl rfl rfl fldF29x1) ?_
  refine Tops_step rfl (OpT_loadC rfl rfl rfl rfl tyF27 (i := 0) rfl rfl) ?_
  refine Tops_step rfl (OpT_cnv rfl rfl rfl rfl (cnv_u32_u64 (n := dp0.Len) Try.underlying27 Try.underlying26)) ?_
  obtain ⟨put2, hx2, h⟩ := ob_e h
  refine Tops_exP rfl (OpT_call (w_desc_raw_put hx2) [1] [] rfl rfl rfl rfl rfl callee38 rfl rfl rfl rfl) ?_
  rintro _ ⟨_, _, _, ⟨rfl, rfl, rfl⟩, rfl⟩
  refine Tops_nil ?_
  refine Tk_wkS (fr' := [(1, some (.pointer (some ⟨b1, 0, none⟩))), (3, some (.pointer (some ⟨b2, 0, none⟩)))]) (own' := [some (cellsR b1 29 [vU64 dp0.Addr, vU32 dp0.Len, vU16 dp0.Flags, vU16 dp0.Next]), some (cellsR b2 60 (put2.map vU8))]) (shr' := []) [1, 3] [0, 2] [] rfl rfl rfl rfl ?_
  refine Tk_seq ?_
  refine Tk_region ?_
  refine Tops_step rfl (OpT_fieldC rfl rfl rfl rfl fldF29x2) ?_
  refine Tops_step rfl (OpT_loadC rfl rfl rfl rfl tyF22 (i := 0) rfl rfl) ?_
  refine Tops_step rfl (OpT_cnv rfl rfl rfl rfl (cnv_u16_u64 (n := dp0.Flags) Try.underlying22 Try.underlying26)) ?_
  obtain ⟨put3, hx3, h⟩ := ob_e h
  refine Tops_exP rfl (OpT_call (w_desc_raw_put hx3) [1] [] rfl rfl rfl rfl rfl callee38 rfl rfl rfl rfl) ?_
  rintro _ ⟨_, _, _, ⟨rfl, rfl, rfl⟩, rfl⟩
  refine Tops_nil ?_
  refine Tk_wkS (fr' := [(1, some (.pointer (some ⟨b1, 0, none⟩))), (3, some (.pointer (some ⟨b2, 0, none⟩)))]) (own' := [some (cellsR b1 29 [vU64 dp0.Addr, vU32 dp0.Len, vU16 dp0.Flags, vU16 dp0.Next]), some (cellsR b2 60 (put3.map vU8))]) (shr' := []) [1, 3] [0, 2] [] rfl rfl rfl rfl ?_
  refine Tk_seq ?_
  refine Tk_region ?_
  refine Tops_step rfl (OpT_fieldC rfl rfl rfl rfl fldF29x3) ?_
  refine Tops_step rfl (OpT_loadC rfl rfl rfl rfl tyF22 (i := 0) rfl rfl) ?_
  refine Tops_step rfl (OpT_cnv rfl rfl rfl rfl (cnv_u16_u64 (n := dp0.Next) Try.underlying22 Try.underlying26)) ?_
  obtain ⟨put4, hx4, h⟩ := ob_e h
  refine Tops_exP rfl (OpT_call (w_desc_raw_put hx4) [1] [] rfl rfl rfl rfl rfl callee38 rfl rfl rfl rfl) ?_
  rintro _ ⟨_, _, _, ⟨rfl, rfl, rfl⟩, rfl⟩
  refine Tops_nil ?_
  refine Tk_wkS (fr' := [(3, some (.pointer (some ⟨b2, 0, none⟩)))]) (own' := [some (cellsR b2 60 (put4.map vU8))]) (shr' := []) [3] [2] [] rfl rfl rfl rfl ?_
  refine Tk_seq ?_
  refine Tk_region ?_
  refine Tops_step rfl (OpT_sliceArr rfl rfl rfl rfl arrF60) ?_
  refine Tops_step rfl (OpT_assign rfl rfl rfl rfl) ?_
  refine Tops_nil ?_
  refine Tk_wkS (fr' := [(2, some (.slice (some ⟨b2, 0, none⟩) 16 16))]) (own' := [some (cellsR b2 60 (put4.map vU8))]) (shr' := []) [2] [0] [] rfl rfl rfl rfl ?_
  obtain ⟨hc1, h⟩ := chk_e h
  refine Tk_rowD u8S rfl (i := 0) (xs := put4) rfl (flat_one _) (len_of hc1) rfl ?_
  obtain rfl := Option.some.inj h
  exact Tk_retV rfl (resA (vs := [.slice (some ⟨b2, 0, none⟩) 16 16]) rfl ⟨rfl, trivial⟩) [0] [] rfl rfl rfl ⟨(.slice (some ⟨b2, 0, none⟩) 16 16), rfl, rfl, rfl⟩

set_option maxRecDepth 100000 in
set_option maxHeartbeats 4000000 in
theorem w_desc_Mark {flags : UInt16} {wrap : Bool} {used : Bool} {r : UInt16} (h : desc_Mark flags wrap used = some r) :
    Ctr Try.prog 9 #[vU16 flags, vB wrap, vB used] [] []
      (fun rv own shr => rv = vU16 r ∧ own = [] ∧ shr = []) := by
  unfold desc_Mark at h
  refine Ctr.mk (args := [vU16 flags, vB wrap, vB used]) Try.func9 rfl rfl (fun R0 w0 B => ?_)
  refine Tk_seq ?_
  refine Tk_region ?_
  refine Tops_step rfl (OpT_assign rfl rfl rfl rfl) ?_
  refine Tops_nil ?_
  refine Tk_wkS (fr' := [(0, some (vU16 flags)), (1, some (vB wrap)), (2, some (vB used))]) (own' := []) (shr' := []) [0, 1, 2] [] [] rfl rfl rfl rfl ?_
  refine Tk_seq ?_
  refine Tk_region ?_
  refine Tops_step rfl (OpT_move rfl rfl rfl rfl) ?_
  refine Tops_step rfl (OpT_bin rfl rfl rfl rfl rfl (bin_andNot_u16 (a := flags) (b := (32896 : UInt16)))) ?_
  refine Tops_step rfl (OpT_assign rfl rfl rfl rfl) ?_
  refine Tops_nil ?_
  refine Tk_wkS (fr' := [(0, some (vU16 (flags &&& ~~~(32896 : UInt16)))), (1, some (vB wrap)), (2, some (vB used))]) (own' := []) (shr' := []) [0, 1, 2] [] [] rfl rfl rfl rfl ?_
  refine Tk_seq ?_
  refine Tk_seq ?_
  refine Tk_region ?_
  refine Tops_step rfl (OpT_move rfl rfl rfl rfl) ?_
  refine Tops_nil ?_
  refine Tk_join (α := UInt16) (fun s => ⟨[(0, some (vU16 s)), (1, some (vB wrap)), (2, some (vB used))], [], []⟩) (fun s => desc_MarkJ1 wrap used s = some r) ?_ ?_
  · rintro flags1 h
    replace h : desc_MarkJ1 wrap used flags1 = some r := h
    unfold desc_MarkJ1 at h
    refine Tk_seq ?_
    refine Tk_seq ?_
    refine Tk_region ?_
    refine Tops_step rfl (OpT_move rfl rfl rfl rfl) ?_
    refine Tops_step rfl (OpT_move rfl rfl rfl rfl) ?_
    refine Tops_step rfl (OpT_bin rfl rfl rfl rfl rfl (bin_eql_b (a := wrap) (b := used) Try.underlying4)) ?_
    refine Tops_nil ?_
    refine Tk_wkS (fr' := [(0, some (vU16 flags1)), (14, some (vB (wrap == used)))]) (own' := []) (shr' := []) [0, 14] [] [] rfl rfl rfl rfl ?_
    rcases Bool.eq_false_or_eq_true (wrap == used) with hg1 | hg1
    · replace h := br_t hg1 h
      refine Tk_condT (congrArg (fun b => some (Value.bool b)) hg1) ?_
      refine Tk_region ?_
      refine Tops_step rfl (OpT_move rfl rfl rfl rfl) ?_
      refine Tops_step rfl (OpT_bin rfl rfl rfl rfl rfl (bin_or_u16 (a := flags1) (b := (32768 : UInt16)))) ?_
      refine Tops_step rfl (OpT_assign rfl rfl rfl rfl) ?_
      refine Tops_nil ?_
      refine Tk_wkS (fr' := [(0, some (vU16 (flags1 ||| (32768 : UInt16))))]) (own' := []) (shr' := []) [0] [] [] rfl rfl rfl rfl ?_
      refine Tk_seq ?_
      refine Tk_region ?_
      refine Tops_step rfl (OpT_move rfl rfl rfl rfl) ?_
      refine Tops_step rfl (OpT_assign rfl rfl rfl rfl) ?_
      refine Tops_nil ?_
      refine Tk_wkS (fr' := [(6, some (vU16 (flags1 ||| (32768 : UInt16))))]) (own' := []) (shr' := []) [6] [] [] rfl rfl rfl rfl ?_
      obtain rfl := Option.some.inj h
      exact Tk_retV rfl (resA (vs := [vU16 (flags1 ||| (32768 : UInt16))]) rfl ⟨rfl, trivial⟩) [] [] rfl rfl rfl ⟨rfl, rfl, rfl⟩
    · replace h := br_f hg1 h
      refine Tk_condF (congrArg (fun b => some (Value.bool b)) hg1) ?_
      refine Tk_skip ?_
      refine Tk_seq ?_
      refine Tk_region ?_
      refine Tops_step rfl (OpT_move rfl rfl rfl rfl) ?_
      refine Tops_step rfl (OpT_assign rfl rfl rfl rfl) ?_
      refine Tops_nil ?_
      refine Tk_wkS (fr' := [(6, some (vU16 flags1))]) (own' := []) (shr' := []) [6] [] [] rfl rfl rfl rfl ?_
      obtain rfl := Option.some.inj h
      exact Tk_retV rfl (resA (vs := [vU16 flags1]) rfl ⟨rfl, trivial⟩) [] [] rfl rfl rfl ⟨rfl, rfl, rfl⟩
  · intro HJ1
    rcases Bool.eq_false_or_eq_true (wrap) with hg2 | hg2
    · replace h := br_t hg2 h
      refine Tk_condT (congrArg (fun b => some (Value.bool b)) hg2) ?_
      refine Tk_region ?_
      refine Tops_step rfl (OpT_move rfl rfl rfl rfl) ?_
      refine Tops_step rfl (OpT_bin rfl rfl rfl rfl rfl (bin_or_u16 (a := flags &&& ~~~(32896 : UInt16)) (b := (128 : UInt16)))) ?_
      refine Tops_step rfl (OpT_assign rfl rfl rfl rfl) ?_
      refine Tops_nil ?_
      refine Tk_wkS (fr' := [(0, some (vU16 ((flags &&& ~~~(32896 : UInt16)) ||| (128 : UInt16)))), (1, some (vB wrap)), (2, some (vB used))]) (own' := []) (shr' := []) [0, 1, 2] [] [] rfl rfl rfl rfl ?_
      exact Tk_jmpS (HJ1 ((flags &&& ~~~(32896 : UInt16)) ||| (128 : UInt16)) h) [0, 1, 2] [] [] rfl rfl rfl rfl
    · replace h := br_f hg2 h
      refine Tk_condF (congrArg (fun b => some (Value.bool b)) hg2) ?_
      refine Tk_skip ?_
      exact Tk_jmpS (HJ1 (flags &&& ~~~(32896 : UInt16)) h) [0, 1, 2] [] [] rfl rfl rfl rfl

set_option maxRecDepth 100000 in
set_option maxHeartbeats 4000000 in
theorem w_law_lives  {r : Bool} (h : law_lives = some r) :
    Ctr Try.prog 8 #[] [] []
      (fun rv own shr => rv = vB r ∧ own = [] ∧ shr = []) := by
  unfold law_lives at h
  refine Ctr.mk (args := []) Try.func8 rfl rfl (fun R0 w0 B => ?_)
  refine Tk_seq ?_
  refine Tk_region ?_
  refine Tops_step rfl (OpT_assign rfl rfl rfl rfl) ?_
  refine Tops_nil ?_
  refine Tk_wkS (fr' := []) (own' := []) (shr' := []) [] [] [] rfl rfl rfl rfl ?_
  refine Tk_seq ?_
  refine Tk_region ?_
  refine Tops_step rfl (OpT_build (v := .agg #[vU64 (4096 : UInt64), vU32 (32 : UInt32), vU16 (1 : UInt16), vU16 (5 : UInt16)]) rfl rfl rfl rfl (bldV (by kernel_rfl))) ?_
  obtain ⟨bytes1, hx1, h⟩ := ob_e h
  refine Tops_exP rfl (OpT_call (w_desc_Bytes hx1) [] [] rfl rfl rfl rfl rfl callee13 rfl rfl rfl rfl) ?_
  rintro _ ⟨v1, _, _, ⟨_, rfl, rfl, rfl⟩, rfl⟩
  refine Tops_step rfl (OpT_assign rfl rfl rfl rfl) ?_
  refine Tops_nil ?_
  refine Tk_wkS (fr' := [(1, some (v1))]) (own' := [some (rowS u8S v1 bytes1)]) (shr' := []) [1] [0] [] rfl rfl rfl rfl ?_
  refine Tk_seq ?_
  refine Tk_region ?_
  refine Tops_step rfl (OpT_move rfl rfl rfl rfl) ?_
  refine Tops_retire (i := 0) rfl ?_
  refine Tops_step rfl (OpT_strS rfl rfl rfl rfl Try.underlying34 Try.underlying5 Try.underlying9 (i := 0) rfl) ?_
  refine Tops_step rfl (OpT_bin rfl rfl rfl rfl rfl (bin_eql_s (a := bytes1) (b := ([0, 16, 0, 0, 0, 0, 0, 0, 32, 0, 0, 0, 1, 0, 5, 0] : List UInt8)))) ?_
  refine Tops_step rfl (OpT_move rfl rfl rfl rfl) ?_
  rcases Bool.eq_false_or_eq_true (bytes1 == ([0, 16, 0, 0, 0, 0, 0, 0, 32, 0, 0, 0, 1, 0, 5, 0] : List UInt8)) with hg1 | hg1
  · replace h := br_t hg1 h
    obtain ⟨mark1, hx2, h⟩ := ob_e h
    refine Tops_yes rfl rfl (congrArg (fun b => some (Value.bool b)) hg1) (OpT_call (w_desc_Mark hx2) [] [] rfl rfl rfl rfl rfl callee9 rfl rfl rfl rfl) ?_
    rintro _ ⟨_, _, _, ⟨rfl, rfl, rfl⟩, rfl⟩
    refine Tops_yes rfl rfl (congrArg (fun b => some (Value.bool b)) hg1) (OpT_bin rfl rfl rfl rfl rfl (bin_eql_u16 (a := mark1) (b := (130 : UInt16)))) ?_
    rintro _ rfl
    refine Tops_step rfl (OpT_pickT rfl rfl rfl (congrArg (fun b => some (Value.bool b)) hg1) rfl) ?_
    refine Tops_step rfl (OpT_move rfl rfl rfl rfl) ?_
    rcases Bool.eq_false_or_eq_true (mark1 == (130 : UInt16)) with hg2 | hg2
    · replace h := br_t hg2 h
      obtain ⟨mark2, hx3, h⟩ := ob_e h
      refine Tops_yes rfl rfl (congrArg (fun b => some (Value.bool b)) hg2) (OpT_call (w_desc_Mark hx3) [] [] rfl rfl rfl rfl rfl callee9 rfl rfl rfl rfl) ?_
      rintro _ ⟨_, _, _, ⟨rfl, rfl, rfl⟩, rfl⟩
      refine Tops_yes rfl rfl (congrArg (fun b => some (Value.bool b)) hg2) (OpT_bin rfl rfl rfl rfl rfl (bin_eql_u16 (a := mark2) (b := (32898 : UInt16)))) ?_
      rintro _ rfl
      refine Tops_step rfl (OpT_pickT rfl rfl rfl (congrArg (fun b => some (Value.bool b)) hg2) rfl) ?_
      refine Tops_step rfl (OpT_assign rfl rfl rfl rfl) ?_
      refine Tops_nil ?_
      refine Tk_wkS (fr' := [(0, some (vB (mark2 == (32898 : UInt16))))]) (own' := []) (shr' := []) [0] [] [] rfl rfl rfl rfl ?_
      obtain rfl := Option.some.inj h
      exact Tk_retV rfl (resA (vs := [vB (mark2 == (32898 : UInt16))]) rfl ⟨rfl, trivial⟩) [] [] rfl rfl rfl ⟨rfl, rfl, rfl⟩
    · replace h := br_f hg2 h
      refine Tops_no rfl rfl (congrArg (fun b => some (Value.bool b)) hg2) rfl rfl ?_
      refine Tops_no rfl rfl (congrArg (fun b => some (Value.bool b)) hg2) rfl rfl ?_
      refine Tops_step rfl (OpT_pickF rfl rfl rfl (congrArg (fun b => some (Value.bool b)) hg2) rfl) ?_
      refine Tops_step rfl (OpT_assign rfl rfl rfl rfl) ?_
      refine Tops_nil ?_
      refine Tk_wkS (fr' := [(0, some (vB false))]) (own' := []) (shr' := []) [0] [] [] rfl rfl rfl rfl ?_
      obtain rfl := Option.some.inj h
      exact Tk_retV rfl (resA (vs := [vB false]) rfl ⟨rfl, trivial⟩) [] [] rfl rfl rfl ⟨rfl, rfl, rfl⟩
  · replace h := br_f hg1 h
    refine Tops_no rfl rfl (congrArg (fun b => some (Value.bool b)) hg1) rfl rfl ?_
    refine Tops_no rfl rfl (congrArg (fun b => some (Value.bool b)) hg1) rfl rfl ?_
    refine Tops_step rfl (OpT_pickF rfl rfl rfl (congrArg (fun b => some (Value.bool b)) hg1) rfl) ?_
    refine Tops_step rfl (OpT_move rfl rfl rfl rfl) ?_
    refine Tops_no rfl rfl rfl rfl rfl ?_
    refine Tops_no rfl rfl rfl rfl rfl ?_
    refine Tops_step rfl (OpT_pickF rfl rfl rfl rfl rfl) ?_
    refine Tops_step rfl (OpT_assign rfl rfl rfl rfl) ?_
    refine Tops_nil ?_
    refine Tk_wkS (fr' := [(0, some (vB false))]) (own' := []) (shr' := []) [0] [] [] rfl rfl rfl rfl ?_
    obtain rfl := Option.some.inj h
    exact Tk_retV rfl (resA (vs := [vB false]) rfl ⟨rfl, trivial⟩) [] [] rfl rfl rfl ⟨rfl, rfl, rfl⟩

set_option maxRecDepth 100000 in
set_option maxHeartbeats 4000000 in
theorem w_desc_Avail {flags : UInt16} {wrap : Bool} {r : Bool} (h : desc_Avail flags wrap = some r) :
    Ctr Try.prog 10 #[vU16 flags, vB wrap] [] []
      (fun rv own shr => rv = vB r ∧ own = [] ∧ shr = []) := by
  unfold desc_Avail at h
  refine Ctr.mk (args := [vU16 flags, vB wrap]) Try.func10 rfl rfl (fun R0 w0 B => ?_)
  refine Tk_seq ?_
  refine Tk_region ?_
  refine Tops_step rfl (OpT_assign rfl rfl rfl rfl) ?_
  refine Tops_nil ?_
  refine Tk_wkS (fr' := [(0, some (vU16 flags)), (1, some (vB wrap))]) (own' := []) (shr' := []) [0, 1] [] [] rfl rfl rfl rfl ?_
  refine Tk_seq ?_
  refine Tk_region ?_
  refine Tops_step rfl (OpT_move rfl rfl rfl rfl) ?_
  refine Tops_step rfl (OpT_bin rfl rfl rfl rfl rfl (bin_and_u16 (a := flags) (b := (128 : UInt16)))) ?_
  refine Tops_step rfl (OpT_bin rfl rfl rfl rfl rfl (bin_neq_u16 (a := flags &&& (128 : UInt16)) (b := (0 : UInt16)))) ?_
  refine Tops_step rfl (OpT_move rfl rfl rfl rfl) ?_
  refine Tops_step rfl (OpT_bin rfl rfl rfl rfl rfl (bin_eql_b (a := (flags &&& (128 : UInt16)) != (0 : UInt16)) (b := wrap) Try.underlying4)) ?_
  refine Tops_step rfl (OpT_move rfl rfl rfl rfl) ?_
  rcases Bool.eq_false_or_eq_true (((flags &&& (128 : UInt16)) != (0 : UInt16)) == wrap) with hg1 | hg1
  · replace h := br_t hg1 h
    refine Tops_yes rfl rfl (congrArg (fun b => some (Value.bool b)) hg1) (OpT_move rfl rfl rfl rfl) ?_
    rintro _ rfl
    refine Tops_yes rfl rfl (congrArg (fun b => some (Value.bool b)) hg1) (OpT_bin rfl rfl rfl rfl rfl (bin_and_u16 (a := flags) (b := (32768 : UInt16)))) ?_
    rintro _ rfl
    refine Tops_yes rfl rfl (congrArg (fun b => some (Value.bool b)) hg1) (OpT_bin rfl rfl rfl rfl rfl (bin_neq_u16 (a := flags &&& (32768 : UInt16)) (b := (0 : UInt16)))) ?_
    rintro _ rfl
    refine Tops_yes rfl rfl (congrArg (fun b => some (Value.bool b)) hg1) (OpT_move rfl rfl rfl rfl) ?_
    rintro _ rfl
    refine Tops_yes rfl rfl (congrArg (fun b => some (Value.bool b)) hg1) (OpT_bin rfl rfl rfl rfl rfl (bin_neq_b (a := (flags &&& (32768 : UInt16)) != (0 : UInt16)) (b := wrap) Try.underlying4)) ?_
    rintro _ rfl
    refine Tops_step rfl (OpT_pickT rfl rfl rfl (congrArg (fun b => some (Value.bool b)) hg1) rfl) ?_
    refine Tops_step rfl (OpT_assign rfl rfl rfl rfl) ?_
    refine Tops_nil ?_
    refine Tk_wkS (fr' := [(4, some (vB (((flags &&& (32768 : UInt16)) != (0 : UInt16)) != wrap)))]) (own' := []) (shr' := []) [4] [] [] rfl rfl rfl rfl ?_
    obtain rfl := Option.some.inj h
    exact Tk_retV rfl (resA (vs := [vB (((flags &&& (32768 : UInt16)) != (0 : UInt16)) != wrap)]) rfl ⟨rfl, trivial⟩) [] [] rfl rfl rfl ⟨rfl, rfl, rfl⟩
  · replace h := br_f hg1 h
    refine Tops_no rfl rfl (congrArg (fun b => some (Value.bool b)) hg1) rfl rfl ?_
    refine Tops_no rfl rfl (congrArg (fun b => some (Value.bool b)) hg1) rfl rfl ?_
    refine Tops_no rfl rfl (congrArg (fun b => some (Value.bool b)) hg1) rfl rfl ?_
    refine Tops_no rfl rfl (congrArg (fun b => some (Value.bool b)) hg1) rfl rfl ?_
    refine Tops_no rfl rfl (congrArg (fun b => some (Value.bool b)) hg1) rfl rfl ?_
    refine Tops_step rfl (OpT_pickF rfl rfl rfl (congrArg (fun b => some (Value.bool b)) hg1) rfl) ?_
    refine Tops_step rfl (OpT_assign rfl rfl rfl rfl) ?_
    refine Tops_nil ?_
    refine Tk_wkS (fr' := [(4, some (vB false))]) (own' := []) (shr' := []) [4] [] [] rfl rfl rfl rfl ?_
    obtain rfl := Option.some.inj h
    exact Tk_retV rfl (resA (vs := [vB false]) rfl ⟨rfl, trivial⟩) [] [] rfl rfl rfl ⟨rfl, rfl, rfl⟩

set_option maxRecDepth 100000 in
set_option maxHeartbeats 4000000 in
theorem w_desc_Used {flags : UInt16} {wrap : Bool} {r : Bool} (h : desc_Used flags wrap = some r) :
    Ctr Try.prog 11 #[vU16 flags, vB wrap] [] []
      (fun rv own shr => rv = vB r ∧ own = [] ∧ shr = []) := by
  unfold desc_Used at h
  refine Ctr.mk (args := [vU16 flags, vB wrap]) Try.func11 rfl rfl (fun R0 w0 B => ?_)
  refine Tk_seq ?_
  refine Tk_region ?_
  refine Tops_step rfl (OpT_assign rfl rfl rfl rfl) ?_
  refine Tops_nil ?_
  refine Tk_wkS (fr' := [(0, some (vU16 flags)), (1, some (vB wrap))]) (own' := []) (shr' := []) [0, 1] [] [] rfl rfl rfl rfl ?_
  refine Tk_seq ?_
  refine Tk_region ?_
  refine Tops_step rfl (OpT_move rfl rfl rfl rfl) ?_
  refine Tops_step rfl (OpT_bin rfl rfl rfl rfl rfl (bin_and_u16 (a := flags) (b := (128 : UInt16)))) ?_
  refine Tops_step rfl (OpT_bin rfl rfl rfl rfl rfl (bin_neq_u16 (a := flags &&& (128 : UInt16)) (b := (0 : UInt16)))) ?_
  refine Tops_step rfl (OpT_move rfl rfl rfl rfl) ?_
  refine Tops_step rfl (OpT_bin rfl rfl rfl rfl rfl (bin_eql_b (a := (flags &&& (128 : UInt16)) != (0 : UInt16)) (b := wrap) Try.underlying4)) ?_
  refine Tops_step rfl (OpT_move rfl rfl rfl rfl) ?_
  rcases Bool.eq_false_or_eq_true (((flags &&& (128 : UInt16)) != (0 : UInt16)) == wrap) with hg1 | hg1
  · replace h := br_t hg1 h
    refine Tops_yes rfl rfl (congrArg (fun b => some (Value.bool b)) hg1) (OpT_move rfl rfl rfl rfl) ?_
    rintro _ rfl
    refine Tops_yes rfl rfl (congrArg (fun b => some (Value.bool b)) hg1) (OpT_bin rfl rfl rfl rfl rfl (bin_and_u16 (a := flags) (b := (32768 : UInt16)))) ?_
    rintro _ rfl
    refine Tops_yes rfl rfl (congrArg (fun b => some (Value.bool b)) hg1) (OpT_bin rfl rfl rfl rfl rfl (bin_neq_u16 (a := flags &&& (32768 : UInt16)) (b := (0 : UInt16)))) ?_
    rintro _ rfl
    refine Tops_yes rfl rfl (congrArg (fun b => some (Value.bool b)) hg1) (OpT_move rfl rfl rfl rfl) ?_
    rintro _ rfl
    refine Tops_yes rfl rfl (congrArg (fun b => some (Value.bool b)) hg1) (OpT_bin rfl rfl rfl rfl rfl (bin_eql_b (a := (flags &&& (32768 : UInt16)) != (0 : UInt16)) (b := wrap) Try.underlying4)) ?_
    rintro _ rfl
    refine Tops_step rfl (OpT_pickT rfl rfl rfl (congrArg (fun b => some (Value.bool b)) hg1) rfl) ?_
    refine Tops_step rfl (OpT_assign rfl rfl rfl rfl) ?_
    refine Tops_nil ?_
    refine Tk_wkS (fr' := [(4, some (vB (((flags &&& (32768 : UInt16)) != (0 : UInt16)) == wrap)))]) (own' := []) (shr' := []) [4] [] [] rfl rfl rfl rfl ?_
    obtain rfl := Option.some.inj h
    exact Tk_retV rfl (resA (vs := [vB (((flags &&& (32768 : UInt16)) != (0 : UInt16)) == wrap)]) rfl ⟨rfl, trivial⟩) [] [] rfl rfl rfl ⟨rfl, rfl, rfl⟩
  · replace h := br_f hg1 h
    refine Tops_no rfl rfl (congrArg (fun b => some (Value.bool b)) hg1) rfl rfl ?_
    refine Tops_no rfl rfl (congrArg (fun b => some (Value.bool b)) hg1) rfl rfl ?_
    refine Tops_no rfl rfl (congrArg (fun b => some (Value.bool b)) hg1) rfl rfl ?_
    refine Tops_no rfl rfl (congrArg (fun b => some (Value.bool b)) hg1) rfl rfl ?_
    refine Tops_no rfl rfl (congrArg (fun b => some (Value.bool b)) hg1) rfl rfl ?_
    refine Tops_step rfl (OpT_pickF rfl rfl rfl (congrArg (fun b => some (Value.bool b)) hg1) rfl) ?_
    refine Tops_step rfl (OpT_assign rfl rfl rfl rfl) ?_
    refine Tops_nil ?_
    refine Tk_wkS (fr' := [(4, some (vB false))]) (own' := []) (shr' := []) [4] [] [] rfl rfl rfl rfl ?_
    obtain rfl := Option.some.inj h
    exact Tk_retV rfl (resA (vs := [vB false]) rfl ⟨rfl, trivial⟩) [] [] rfl rfl rfl ⟨rfl, rfl, rfl⟩

set_option maxRecDepth 100000 in
set_option maxHeartbeats 4000000 in
theorem w_desc_raw_get {rp0 : List UInt8} {atp1 : Int} {np2 : Int} {b_rp0 : Nat} {r : UInt64} (h : desc_raw_get rp0 atp1 np2 = some r) :
    Ctr Try.prog 39 #[.pointer (some ⟨b_rp0, 0, none⟩), vI atp1, vI np2] [(cellsR b_rp0 60 (rp0.map vU8))] []
      (fun rv own shr => rv = vU64 r ∧ own = [(cellsR b_rp0 60 (rp0.map vU8))] ∧ shr = []) := by
  unfold desc_raw_get at h
  refine Ctr.mk (args := [.pointer (some ⟨b_rp0, 0, none⟩), vI atp1, vI np2]) Try.func39 rfl rfl (fun R0 w0 B => ?_)
  refine Tk_seq ?_
  refine Tk_region ?_
  refine Tops_step rfl (OpT_assign rfl rfl rfl rfl) ?_
  refine Tops_nil ?_
  refine Tk_seq ?_
  refine Tk_seq ?_
  refine Tk_region ?_
  refine Tops_step rfl (OpT_move rfl rfl rfl rfl) ?_
  refine Tops_step rfl (OpT_move rfl rfl rfl rfl) ?_
  refine Tops_nil ?_
  refine Tk_wkS (fr' := [(0, some (.pointer (some ⟨b_rp0, 0, none⟩))), (1, some (vI atp1)), (6, some (vU64 (0 : UInt64))), (8, some (vI np2)), (9, some (vI (0 : Int)))]) (own' := [some (cellsR b_rp0 60 (rp0.map vU8))]) (shr' := []) [0, 1, 6, 8, 9] [0] [] rfl rfl rfl rfl ?_
  refine Tk_block ?_
  refine Tk_loopS (σ := UInt64 × Int) [0, 1, 6, 8, 9] [0] [] (fun s => ⟨[(0, some (.pointer (some ⟨b_rp0, 0, none⟩))), (1, some (vI atp1)), (6, some (vU64 s.1)), (8, some (vI np2)), (9, some (vI s.2))], [some (cellsR b_rp0 60 (rp0.map vU8))], []⟩) (fun nf s => desc_raw_getL1 rp0 atp1 np2 nf s.1 s.2 = some r) fuel ((0 : UInt64), (0 : Int)) h rfl rfl rfl rfl rfl (fun s h => by cases h) ?_
  rintro nf ⟨v1, x1⟩ h
  replace h : desc_raw_getL1B rp0 atp1 np2 (desc_raw_getL1 rp0 atp1 np2 nf) v1 x1 = some r := h
  unfold desc_raw_getL1B at h
  refine Tk_seq ?_
  refine Tk_region ?_
  refine Tops_step rfl (OpT_bin rfl rfl rfl rfl rfl (bin_lss_i (a := x1) (b := np2))) ?_
  refine Tops_nil ?_
  refine Tk_seq ?_
  rcases Bool.eq_false_or_eq_true (decide (x1 < np2)) with hg1 | hg1
  · replace h := br_t hg1 h
    refine Tk_condT (congrArg (fun b => some (Value.bool b)) hg1) ?_
    refine Tk_skip ?_
    refine Tk_seq ?_
    refine Tk_block ?_
    refine Tk_seq ?_
    refine Tk_region ?_
    refine Tops_step rfl (OpT_move rfl rfl rfl rfl) ?_
    refine Tops_step rfl (OpT_assign rfl rfl rfl rfl) ?_
    refine Tops_nil ?_
    refine Tk_wkS (fr' := [(0, some (.pointer (some ⟨b_rp0, 0, none⟩))), (1, some (vI atp1)), (6, some (vU64 v1)), (8, some (vI np2)), (9, some (vI x1)), (7, some (vI x1))]) (own' := [some (cellsR b_rp0 60 (rp0.map vU8))]) (shr' := []) [0, 1, 6, 8, 9, 7] [0] [] rfl rfl rfl rfl ?_
    refine Tk_region ?_
    refine Tops_step rfl (OpT_move rfl rfl rfl rfl) ?_
    refine Tops_step rfl (OpT_move rfl rfl rfl rfl) ?_
    refine Tops_step rfl (OpT_move rfl rfl rfl rfl) ?_
    refine Tops_step rfl (OpT_move rfl rfl rfl rfl) ?_
    refine Tops_step rfl (OpT_bin rfl rfl rfl rfl rfl (bin_add_i (a := atp1) (b := x1))) ?_
    refine Tops_step rfl (OpT_nilCheckP rfl rfl rfl rfl) ?_
    obtain ⟨hc1, h⟩ := chk_e h
    refine Tops_step rfl (OpT_indexC rfl rfl rfl rfl rfl arrF60 hc1) ?_
    obtain ⟨u1, hx1, h⟩ := ob_e h
    refine Tops_step rfl (OpT_loadLA (f := vU8) rfl rfl rfl rfl tyF5 (i := 0) rfl hx1) ?_
    refine Tops_step rfl (OpT_cnv rfl rfl rfl rfl (cnv_u8_u64 (n := u1) Try.underlying5 Try.underlying26)) ?_
    refine Tops_step rfl (OpT_move rfl rfl rfl rfl) ?_
    refine Tops_step rfl (OpT_bin rfl rfl rfl rfl rfl (bin_mul_i (a := (8 : Int)) (b := x1))) ?_
    obtain ⟨hc2, h⟩ := chk_e h
    refine Tops_step rfl (OpT_bin rfl rfl rfl rfl rfl (bin_shl_u64_i64 (a := u1.toUInt64) (n := wi ((8 : Int) * x1)) hc2)) ?_
    refine Tops_step rfl (OpT_bin rfl rfl rfl rfl rfl (bin_or_u64 (a := v1) (b := shl64 u1.toUInt64 ((wi ((8 : Int) * x1)).toNat)))) ?_
    refine Tops_step rfl (OpT_assign rfl rfl rfl rfl) ?_
    refine Tops_nil ?_
    refine Tk_wkS (fr' := [(0, some (.pointer (some ⟨b_rp0, 0, none⟩))), (1, some (vI atp1)), (6, some (vU64 (v1 ||| (shl64 u1.toUInt64 ((wi ((8 : Int) * x1)).toNat))))), (8, some (vI np2)), (9, some (vI x1))]) (own' := [some (cellsR b_rp0 60 (rp0.map vU8))]) (shr' := []) [0, 1, 6, 8, 9] [0] [] rfl rfl rfl rfl ?_
    refine Tk_blk ?_
    refine Tk_region ?_
    refine Tops_step rfl (OpT_bin rfl rfl rfl rfl rfl (bin_add_i (a := x1) (b := (1 : Int)))) ?_
    refine Tops_step rfl (OpT_move rfl rfl rfl rfl) ?_
    refine Tops_nil ?_
    refine Tk_wkS (fr' := [(0, some (.pointer (some ⟨b_rp0, 0, none⟩))), (1, some (vI atp1)), (6, some (vU64 (v1 ||| (shl64 u1.toUInt64 ((wi ((8 : Int) * x1)).toNat))))), (8, some (vI np2)), (9, some (vI (wi (x1 + (1 : Int)))))]) (own' := [some (cellsR b_rp0 60 (rp0.map vU8))]) (shr' := []) [0, 1, 6, 8, 9] [0] [] rfl rfl rfl rfl ?_
    exact Tk_backS (v1 ||| (shl64 u1.toUInt64 ((wi ((8 : Int) * x1)).toNat)), wi (x1 + (1 : Int))) h [0, 1, 6, 8, 9] [0] [] rfl rfl rfl rfl rfl
  · replace h := br_f hg1 h
    refine Tk_condF (congrArg (fun b => some (Value.bool b)) hg1) ?_
    refine Tk_exit _ rfl ?_
    refine Tk_seq ?_
    refine Tk_region ?_
    refine Tops_step rfl (OpT_move rfl rfl rfl rfl) ?_
    refine Tops_step rfl (OpT_assign rfl rfl rfl rfl) ?_
    refine Tops_nil ?_
    refine Tk_wkS (fr' := [(6, some (vU64 v1))]) (own' := [some (cellsR b_rp0 60 (rp0.map vU8))]) (shr' := []) [6] [0] [] rfl rfl rfl rfl ?_
    obtain rfl := Option.some.inj h
    exact Tk_retV rfl (resA (vs := [vU64 v1]) rfl ⟨rfl, trivial⟩) [0] [] rfl rfl rfl ⟨rfl, rfl, rfl⟩

set_option maxRecDepth 100000 in
set_option maxHeartbeats 4000000 in
theorem w_desc_Read {b : List UInt8} {vb1 : Value} {r : (Desc × Int)} (h : desc_Read b = some r) :
    Ctr Try.prog 15 #[vb1] [] [Fact.sl u8S vb1 b]
      (fun rv own shr => rv = .tuple #[.agg #[vU64 r.1.Addr, vU32 r.1.Len, vU16 r.1.Flags, vU16 r.1.Next], vI r.2] ∧ own = [] ∧ shr = []) := by
  unfold desc_Read at h
  refine Ctr.mk (args := [vb1]) Try.func15 rfl rfl (fun R0 w0 B => ?_)
  refine Tk_seq ?_
  refine Tk_region ?_
  refine Tops_ex rfl (OpT_alloc rfl rfl rfl tyZ29) fun b1 => ?_
  refine Tops_step rfl (OpT_assign rfl rfl rfl rfl) ?_
  refine Tops_nil ?_
  refine Tk_wkS (fr' := [(0, some (vb1)), (2, some (.pointer (some ⟨b1, 0, none⟩)))]) (own' := [some (cellsR b1 29 [vU64 (0 : UInt64), vU32 (0 : UInt32), vU16 (0 : UInt16), vU16 (0 : UInt16)])]) (shr' := [Fact.sl u8S vb1 b]) [0, 2] [0] [0] rfl rfl rfl rfl ?_
  refine Tk_seq ?_
  refine Tk_seq ?_
  refine Tk_region ?_
  refine Tops_step rfl (OpT_move rfl rfl rfl rfl) ?_
  refine Tops_step rfl (OpT_lenS rfl rfl rfl rfl Try.underlying34 (i := 0) rfl) ?_
  refine Tops_step rfl (OpT_bin rfl rfl rfl rfl rfl (bin_neq_i (a := len b) (b := (16 : Int)))) ?_
  refine Tops_nil ?_
  refine Tk_wkS (fr' := [(0, some (vb1)), (2, some (.pointer (some ⟨b1, 0, none⟩))), (7, some (vB ((len b) != (16 : Int))))]) (own' := [some (cellsR b1 29 [vU64 (0 : UInt64), vU32 (0 : UInt32), vU16 (0 : UInt16), vU16 (0 : UInt16)])]) (shr' := [Fact.sl u8S vb1 b]) [0, 2, 7] [0] [0] rfl rfl rfl rfl ?_
  rcases Bool.eq_false_or_eq_true ((len b) != (16 : Int)) with hg1 | hg1
  · replace h := br_t hg1 h
    refine Tk_condT (congrArg (fun b => some (Value.bool b)) hg1) ?_
    refine Tk_seq ?_
    refine Tk_region ?_
    refine Tops_step rfl (OpT_build (v := .agg #[vU64 (0 : UInt64), vU32 (0 : UInt32), vU16 (0 : UInt16), vU16 (0 : UInt16)]) rfl rfl rfl rfl (bldV (by kernel_rfl))) ?_
    refine Tops_step rfl (OpT_storeC (cs' := [vU64 (0 : UInt64), vU32 (0 : UInt32), vU16 (0 : UInt16), vU16 (0 : UInt16)]) rfl rfl rfl rfl tyF29 (i := 0) rfl rfl rfl (one_of rfl) rfl) ?_
    refine Tops_step rfl (OpT_assign rfl rfl rfl rfl) ?_
    refine Tops_nil ?_
    refine Tk_wkS (fr' := [(2, some (.pointer (some ⟨b1, 0, none⟩))), (3, some (vI (4 : Int)))]) (own' := [some (cellsR b1 29 [vU64 (0 : UInt64), vU32 (0 : UInt32), vU16 (0 : UInt16), vU16 (0 : UInt16)])]) (shr' := []) [2, 3] [0] [] rfl rfl rfl rfl ?_
    obtain rfl := Option.some.inj h
    exact Tk_retV rfl (resA (vs := [.agg #[vU64 (0 : UInt64), vU32 (0 : UInt32), vU16 (0 : UInt16), vU16 (0 : UInt16)], vI (4 : Int)]) rfl ⟨⟨_, 0, _, _, _, rfl, rfl, .inl ⟨tyF29, rfl, rfl⟩⟩, rfl, trivial⟩) [] [] rfl rfl rfl ⟨rfl, rfl, rfl⟩
  · replace h := br_f hg1 h
    refine Tk_condF (congrArg (fun b => some (Value.bool b)) hg1) ?_
    refine Tk_skip ?_
    refine Tk_seq ?_
    refine Tk_region ?_
    refine Tops_step rfl (OpT_move rfl rfl rfl rfl) ?_
    obtain ⟨hc1, h⟩ := chk_e h
    refine Tops_ex rfl (OpT_toArr rfl rfl rfl rfl arrF60 (i := 0) rfl hc1 rfl) fun p1 => ?_
    refine Tops_step rfl (OpT_loadArrD u8S rfl (f := vU8) (fun _ => rfl) rfl rfl rfl rfl tyF60 (i := 1) rfl rfl) ?_
    refine Tops_ex rfl (OpT_alloc rfl rfl rfl tyZ60) fun b2 => ?_
    obtain ⟨hc2, h⟩ := chk_e h
    refine Tops_step rfl (OpT_storeLAA (f := vU8) (xs := b.take 16) rfl rfl rfl rfl tyF60 (i := 1) rfl hc2 rfl (fun _ => rfl)) ?_
    refine Tops_nil ?_
    refine Tk_wkS (fr' := [(2, some (.pointer (some ⟨b1, 0, none⟩))), (4, some (.pointer (some ⟨b2, 0, none⟩)))]) (own' := [some (cellsR b1 29 [vU64 (0 : UInt64), vU32 (0 : UInt32), vU16 (0 : UInt16), vU16 (0 : UInt16)]), some (cellsR b2 60 ((b.take 16).map vU8))]) (shr' := []) [2, 4] [0, 1] [] rfl rfl rfl rfl ?_
    refine Tk_seq ?_
    refine Tk_region ?_
    obtain ⟨get1, hx1, h⟩ := ob_e h
    refine Tops_exP rfl (OpT_call (w_desc_raw_get hx1) [1] [] rfl rfl rfl rfl rfl callee39 rfl rfl rfl rfl) ?_
    rintro _ ⟨_, _, _, ⟨rfl, rfl, rfl⟩, rfl⟩
    obtain ⟨get2, hx2, h⟩ := ob_e h
    refine Tops_exP rfl (OpT_call (w_desc_raw_get hx2) [2] [] rfl rfl rfl rfl rfl callee39 rfl rfl rfl rfl) ?_
    rintro _ ⟨_, _, _, ⟨rfl, rfl, rfl⟩, rfl⟩
    refine Tops_step rfl (OpT_cnv rfl rfl rfl rfl (cnv_u64_u32 (n := get2) Try.underlying26 Try.underlying27)) ?_
    obtain ⟨get3, hx3, h⟩ := ob_e h
    refine Tops_exP rfl (OpT_call (w_desc_raw_get hx3) [3] [] rfl rfl rfl rfl rfl callee39 rfl rfl rfl rfl) ?_
    rintro _ ⟨_, _, _, ⟨rfl, rfl, rfl⟩, rfl⟩
    refine Tops_step rfl (OpT_cnv rfl rfl rfl rfl (cnv_u64_u16 (n := get3) Try.underlying26 Try.underlying22)) ?_
    obtain ⟨get4, hx4, h⟩ := ob_e h
    refine Tops_exP rfl (OpT_call (w_desc_raw_get hx4) [4] [] rfl rfl rfl rfl rfl callee39 rfl rfl rfl rfl) ?_
    rintro _ ⟨_, _, _, ⟨rfl, rfl, rfl⟩, rfl⟩
    refine Tops_step rfl (OpT_cnv rfl rfl rfl rfl (cnv_u64_u16 (n := get4) Try.underlying26 Try.underlying22)) ?_
    refine Tops_step rfl (OpT_build (v := .agg #[vU64 get1, vU32 get2.toUInt32, vU16 get3.toUInt16, vU16 get4.toUInt16]) rfl rfl rfl rfl (bldV (by kernel_rfl))) ?_
    refine Tops_step rfl (OpT_storeC (cs' := [vU64 get1, vU32 get2.toUInt32, vU16 get3.toUInt16, vU16 get4.toUInt16]) rfl rfl rfl rfl tyF29 (i := 0) rfl rfl rfl (one_of rfl) rfl) ?_
    refine Tops_step rfl (OpT_assign rfl rfl rfl rfl) ?_
    refine Tops_nil ?_
    refine Tk_wkS (fr' := [(2, some (.pointer (some ⟨b1, 0, none⟩))), (3, some (vI (0 : Int)))]) (own' := [some (cellsR b1 29 [vU64 get1, vU32 get2.toUInt32, vU16 get3.toUInt16, vU16 get4.toUInt16])]) (shr' := []) [2, 3] [0] [] rfl rfl rfl rfl ?_
    obtain rfl := Option.some.inj h
    exact Tk_retV rfl (resA (vs := [.agg #[vU64 get1, vU32 get2.toUInt32, vU16 get3.toUInt16, vU16 get4.toUInt16], vI (0 : Int)]) rfl ⟨⟨_, 0, _, _, _, rfl, rfl, .inl ⟨tyF29, rfl, rfl⟩⟩, rfl, trivial⟩) [] [] rfl rfl rfl ⟨rfl, rfl, rfl⟩

set_option maxRecDepth 100000 in
set_option maxHeartbeats 4000000 in
theorem w_desc_ReadPacked {b : List UInt8} {vb1 : Value} {r : (Packed × Int)} (h : desc_ReadPacked b = some r) :
    Ctr Try.prog 16 #[vb1] [] [Fact.sl u8S vb1 b]
      (fun rv own shr => rv = .tuple #[.agg #[vU64 r.1.Addr, vU32 r.1.Len, vU16 r.1.ID, vU16 r.1.Flags], vI r.2] ∧ own = [] ∧ shr = []) := by
  unfold desc_ReadPacked at h
  refine Ctr.mk (args := [vb1]) Try.func16 rfl rfl (fun R0 w0 B => ?_)
  refine Tk_seq ?_
  refine Tk_region ?_
  refine Tops_ex rfl (OpT_alloc rfl rfl rfl tyZ31) fun b1 => ?_
  refine Tops_step rfl (OpT_assign rfl rfl rfl rfl) ?_
  refine Tops_nil ?_
  refine Tk_wkS (fr' := [(0, some (vb1)), (2, some (.pointer (some ⟨b1, 0, none⟩)))]) (own' := [some (cellsR b1 31 [vU64 (0 : UInt64), vU32 (0 : UInt32), vU16 (0 : UInt16), vU16 (0 : UInt16)])]) (shr' := [Fact.sl u8S vb1 b]) [0, 2] [0] [0] rfl rfl rfl rfl ?_
  refine Tk_seq ?_
  refine Tk_seq ?_
  refine Tk_region ?_
  refine Tops_step rfl (OpT_move rfl rfl rfl rfl) ?_
  refine Tops_step rfl (OpT_lenS rfl rfl rfl rfl Try.underlying34 (i := 0) rfl) ?_
  refine Tops_step rfl (OpT_bin rfl rfl rfl rfl rfl (bin_neq_i (a := len b) (b := (16 : Int)))) ?_
  refine Tops_nil ?_
  refine Tk_wkS (fr' := [(0, some (vb1)), (2, some (.pointer (some ⟨b1, 0, none⟩))), (7, some (vB ((len b) != (16 : Int))))]) (own' := [some (cellsR b1 31 [vU64 (0 : UInt64), vU32 (0 : UInt32), vU16 (0 : UInt16), vU16 (0 : UInt16)])]) (shr' := [Fact.sl u8S vb1 b]) [0, 2, 7] [0] [0] rfl rfl rfl rfl ?_
  rcases Bool.eq_false_or_eq_true ((len b) != (16 : Int)) with hg1 | hg1
  · replace h := br_t hg1 h
    refine Tk_condT (congrArg (fun b => some (Value.bool b)) hg1) ?_
    refine Tk_seq ?_
    refine Tk_region ?_
    refine Tops_step rfl (OpT_build (v := .agg #[vU64 (0 : UInt64), vU32 (0 : UInt32), vU16 (0 : UInt16), vU16 (0 : UInt16)]) rfl rfl rfl rfl (bldV (by kernel_rfl))) ?_
    refine Tops_step rfl (OpT_storeC (cs' := [vU64 (0 : UInt64), vU32 (0 : UInt32), vU16 (0 : UInt16), vU16 (0 : UInt16)]) rfl rfl rfl rfl tyF31 (i := 0) rfl rfl rfl (one_of rfl) rfl) ?_
    refine Tops_step rfl (OpT_assign rfl rfl rfl rfl) ?_
    refine Tops_nil ?_
    refine Tk_wkS (fr' := [(2, some (.pointer (some ⟨b1, 0, none⟩))), (3, some (vI (4 : Int)))]) (own' := [some (cellsR b1 31 [vU64 (0 : UInt64), vU32 (0 : UInt32), vU16 (0 : UInt16), vU16 (0 : UInt16)])]) (shr' := []) [2, 3] [0] [] rfl rfl rfl rfl ?_
    obtain rfl := Option.some.inj h
    exact Tk_retV rfl (resA (vs := [.agg #[vU64 (0 : UInt64), vU32 (0 : UInt32), vU16 (0 : UInt16), vU16 (0 : UInt16)], vI (4 : Int)]) rfl ⟨⟨_, 0, _, _, _, rfl, rfl, .inl ⟨tyF31, rfl, rfl⟩⟩, rfl, trivial⟩) [] [] rfl rfl rfl ⟨rfl, rfl, rfl⟩
  · replace h := br_f hg1 h
    refine Tk_condF (congrArg (fun b => some (Value.bool b)) hg1) ?_
    refine Tk_skip ?_
    refine Tk_seq ?_
    refine Tk_region ?_
    refine Tops_step rfl (OpT_move rfl rfl rfl rfl) ?_
    obtain ⟨hc1, h⟩ := chk_e h
    refine Tops_ex rfl (OpT_toArr rfl rfl rfl rfl arrF60 (i := 0) rfl hc1 rfl) fun p1 => ?_
    refine Tops_step rfl (OpT_loadArrD u8S rfl (f := vU8) (fun _ => rfl) rfl rfl rfl rfl tyF60 (i := 1) rfl rfl) ?_
    refine Tops_ex rfl (OpT_alloc rfl rfl rfl tyZ60) fun b2 => ?_
    obtain ⟨hc2, h⟩ := chk_e h
    refine Tops_step rfl (OpT_storeLAA (f := vU8) (xs := b.take 16) rfl rfl rfl rfl tyF60 (i := 1) rfl hc2 rfl (fun _ => rfl)) ?_
    refine Tops_nil ?_
    refine Tk_wkS (fr' := [(2, some (.pointer (some ⟨b1, 0, none⟩))), (4, some (.pointer (some ⟨b2, 0, none⟩)))]) (own' := [some (cellsR b1 31 [vU64 (0 : UInt64), vU32 (0 : UInt32), vU16 (0 : UInt16), vU16 (0 : UInt16)]), some (cellsR b2 60 ((b.take 16).map vU8))]) (shr' := []) [2, 4] [0, 1] [] rfl rfl rfl rfl ?_
    refine Tk_seq ?_
    refine Tk_region ?_
    obtain ⟨get1, hx1, h⟩ := ob_e h
    refine Tops_exP rfl (OpT_call (w_desc_raw_get hx1) [1] [] rfl rfl rfl rfl rfl callee39 rfl rfl rfl rfl) ?_
    rintro _ ⟨_, _, _, ⟨rfl, rfl, rfl⟩, rfl⟩
    obtain ⟨get2, hx2, h⟩ := ob_e h
    refine Tops_exP rfl (OpT_call (w_desc_raw_get hx2) [2] [] rfl rfl rfl rfl rfl callee39 rfl rfl rfl rfl) ?_
    rintro _ ⟨_, _, _, ⟨rfl, rfl, rfl⟩, rfl⟩
    refine Tops_step rfl (OpT_cnv rfl rfl rfl rfl (cnv_u64_u32 (n := get2) Try.underlying26 Try.underlying27)) ?_
    obtain ⟨get3, hx3, h⟩ := ob_e h
    refine Tops_exP rfl (OpT_call (w_desc_raw_get hx3) [3] [] rfl rfl rfl rfl rfl callee39 rfl rfl rfl rfl) ?_
    rintro _ ⟨_, _, _, ⟨rfl, rfl, rfl⟩, rfl⟩
    refine Tops_step rfl (OpT_cnv rfl rfl rfl rfl (cnv_u64_u16 (n := get3) Try.underlying26 Try.underlying22)) ?_
    obtain ⟨get4, hx4, h⟩ := ob_e h
    refine Tops_exP rfl (OpT_call (w_desc_raw_get hx4) [4] [] rfl rfl rfl rfl rfl callee39 rfl rfl rfl rfl) ?_
    rintro _ ⟨_, _, _, ⟨rfl, rfl, rfl⟩, rfl⟩
    refine Tops_step rfl (OpT_cnv rfl rfl rfl rfl (cnv_u64_u16 (n := get4) Try.underlying26 Try.underlying22)) ?_
    refine Tops_step rfl (OpT_build (v := .agg #[vU64 get1, vU32 get2.toUInt32, vU16 get3.toUInt16, vU16 get4.toUInt16]) rfl rfl rfl rfl (bldV (by kernel_rfl))) ?_
    refine Tops_step rfl (OpT_storeC (cs' := [vU64 get1, vU32 get2.toUInt32, vU16 get3.toUInt16, vU16 get4.toUInt16]) rfl rfl rfl rfl tyF31 (i := 0) rfl rfl rfl (one_of rfl) rfl) ?_
    refine Tops_step rfl (OpT_assign rfl rfl rfl rfl) ?_
    refine Tops_nil ?_
    refine Tk_wkS (fr' := [(2, some (.pointer (some ⟨b1, 0, none⟩))), (3, some (vI (0 : Int)))]) (own' := [some (cellsR b1 31 [vU64 get1, vU32 get2.toUInt32, vU16 get3.toUInt16, vU16 get4.toUInt16])]) (shr' := []) [2, 3] [0] [] rfl rfl rfl rfl ?_
    obtain rfl := Option.some.inj h
    exact Tk_retV rfl (resA (vs := [.agg #[vU64 get1, vU32 get2.toUInt32, vU16 get3.toUInt16, vU16 get4.toUInt16], vI (0 : Int)]) rfl ⟨⟨_, 0, _, _, _, rfl, rfl, .inl ⟨tyF31, rfl, rfl⟩⟩, rfl, trivial⟩) [] [] rfl rfl rfl ⟨rfl, rfl, rfl⟩

set_option maxRecDepth 100000 in
set_option maxHeartbeats 4000000 in
theorem w_desc_Table {l : List Desc} {vl1 : Value} {r : (List UInt8)} (h : desc_Table l = some r) :
    Ctr Try.prog 17 #[vl1] [] [Fact.sl DescS vl1 l]
      (fun rv own shr => ∃ (w1 : Value), rv = w1 ∧ own = [(rowS u8S w1 r)] ∧ shr = []) := by
  unfold desc_Table at h
  refine Ctr.mk (args := [vl1]) Try.func17 rfl rfl (fun R0 w0 B => ?_)
  refine Tk_seq ?_
  refine Tk_region ?_
  refine Tops_step rfl (OpT_assign rfl rfl rfl rfl) ?_
  refine Tops_nil ?_
  refine Tk_seq ?_
  refine Tk_seq ?_
  refine Tk_region ?_
  refine Tops_step rfl (OpT_move rfl rfl rfl rfl) ?_
  refine Tops_step rfl (OpT_lenS rfl rfl rfl rfl Try.underlying32 (i := 0) rfl) ?_
  refine Tops_step rfl (OpT_move rfl rfl rfl rfl) ?_
  refine Tops_nil ?_
  refine Tk_wkS (fr' := [(2, some (.slice none 0 0)), (5, some (vl1)), (6, some (vI (len l))), (7, some (vI (0 : Int)))]) (own' := []) (shr' := [Fact.sl DescS vl1 l]) [2, 5, 6, 7] [] [0] rfl rfl rfl rfl ?_
  refine Tk_block ?_
  refine Tk_nilrow u8S ?_
  refine Tk_loopS (σ := (List UInt8) × Int × Value) [2, 5, 6, 7] [0] [0] (fun s => ⟨[(2, some (s.2.2)), (5, some (vl1)), (6, some (vI (len l))), (7, some (vI s.2.1))], [some (rowS u8S s.2.2 s.1)], [Fact.sl DescS vl1 l]⟩) (fun nf s => desc_TableL1 l nf s.1 s.2.1 = some r) fuel ([], (0 : Int), (.slice none 0 0)) h rfl rfl rfl rfl rfl (fun s h => by cases h) ?_
  rintro nf ⟨b1, x1, v1⟩ h
  replace h : desc_TableL1B l (desc_TableL1 l nf) b1 x1 = some r := h
  unfold desc_TableL1B at h
  refine Tk_seq ?_
  refine Tk_region ?_
  refine Tops_step rfl (OpT_bin rfl rfl rfl rfl rfl (bin_lss_i (a := x1) (b := len l))) ?_
  refine Tops_nil ?_
  refine Tk_seq ?_
  rcases Bool.eq_false_or_eq_true (decide (x1 < (len l))) with hg1 | hg1
  · replace h := br_t hg1 h
    refine Tk_condT (congrArg (fun b => some (Value.bool b)) hg1) ?_
    refine Tk_skip ?_
    refine Tk_seq ?_
    refine Tk_block ?_
    refine Tk_seq ?_
    refine Tk_region ?_
    obtain ⟨d1, hx1, h⟩ := ob_e h
    refine Tops_ex rfl (OpT_idxS rfl rfl rfl rfl rfl slF32 (i := 0) rfl hx1) fun p1 => ?_
    refine Tops_step rfl (OpT_loadPA (vs := [vU64 d1.Addr, vU32 d1.Len, vU16 d1.Flags, vU16 d1.Next]) rfl rfl rfl rfl tyF29 (i := 1) rfl rfl) ?_
    refine Tops_ex rfl (OpT_alloc rfl rfl rfl tyZ29) fun b2 => ?_
    refine Tops_step rfl (OpT_storeC (cs' := [vU64 d1.Addr, vU32 d1.Len, vU16 d1.Flags, vU16 d1.Next]) rfl rfl rfl rfl tyF29 (i := 1) rfl rfl rfl (one_of rfl) rfl) ?_
    refine Tops_nil ?_
    refine Tk_wkS (fr' := [(2, some (v1)), (5, some (vl1)), (6, some (vI (len l))), (7, some (vI x1)), (4, some (.pointer (some ⟨b2, 0, none⟩)))]) (own' := [some (rowS u8S v1 b1), some (cellsR b2 29 [vU64 d1.Addr, vU32 d1.Len, vU16 d1.Flags, vU16 d1.Next])]) (shr' := [Fact.sl DescS vl1 l]) [2, 5, 6, 7, 4] [0, 1] [0] rfl rfl rfl rfl ?_
    refine Tk_region ?_
    refine Tops_step rfl (OpT_move rfl rfl rfl rfl) ?_
    refine Tops_step rfl (OpT_loadCA (vs := [vU64 d1.Addr, vU32 d1.Len, vU16 d1.Flags, vU16 d1.Next]) rfl rfl rfl rfl tyF29 (i := 1) rfl rfl rfl) ?_
    obtain ⟨bytes1, hx2, h⟩ := ob_e h
    refine Tops_exP rfl (OpT_call (w_desc_Bytes hx2) [] [] rfl rfl rfl rfl rfl callee13 rfl rfl rfl rfl) ?_
    rintro _ ⟨v2, _, _, ⟨_, rfl, rfl, rfl⟩, rfl⟩
    refine Tops_retire (i := 2) rfl ?_
    obtain ⟨hc1, h⟩ := chk_e h
    refine Tops_ex rfl (OpT_append rfl rfl rfl rfl rfl slF34 (i := 0) (j := 1) rfl rfl hc1) fun v3 => ?_
    refine Tops_step rfl (OpT_assign rfl rfl rfl rfl) ?_
    refine Tops_nil ?_
    refine Tk_wkS (fr' := [(2, some (v3)), (5, some (vl1)), (6, some (vI (len l))), (7, some (vI x1))]) (own' := [some (rowS u8S v3 (b1 ++ bytes1))]) (shr' := [Fact.sl DescS vl1 l]) [2, 5, 6, 7] [0] [0] rfl rfl rfl rfl ?_
    refine Tk_blk ?_
    refine Tk_region ?_
    refine Tops_step rfl (OpT_bin rfl rfl rfl rfl rfl (bin_add_i (a := x1) (b := (1 : Int)))) ?_
    refine Tops_step rfl (OpT_move rfl rfl rfl rfl) ?_
    refine Tops_nil ?_
    refine Tk_wkS (fr' := [(2, some (v3)), (5, some (vl1)), (6, some (vI (len l))), (7, some (vI (wi (x1 + (1 : Int)))))]) (own' := [some (rowS u8S v3 (b1 ++ bytes1))]) (shr' := [Fact.sl DescS vl1 l]) [2, 5, 6, 7] [0] [0] rfl rfl rfl rfl ?_
    exact Tk_backS (b1 ++ bytes1, wi (x1 + (1 : Int)), v3) h [2, 5, 6, 7] [0] [0] rfl rfl rfl rfl rfl
  · replace h := br_f hg1 h
    refine Tk_condF (congrArg (fun b => some (Value.bool b)) hg1) ?_
    refine Tk_exit _ rfl ?_
    refine Tk_seq ?_
    refine Tk_region ?_
    refine Tops_step rfl (OpT_move rfl rfl rfl rfl) ?_
    refine Tops_step rfl (OpT_assign rfl rfl rfl rfl) ?_
    refine Tops_nil ?_
    refine Tk_wkS (fr' := [(2, some (v1))]) (own' := [some (rowS u8S v1 b1)]) (shr' := []) [2] [0] [] rfl rfl rfl rfl ?_
    obtain rfl := Option.some.inj h
    exact Tk_retV rfl (resA (vs := [v1]) rfl ⟨rfl, trivial⟩) [0] [] rfl rfl rfl ⟨v1, rfl, rfl, rfl⟩

set_option maxRecDepth 100000 in
set_option maxHeartbeats 4000000 in
theorem w_kit_Pick {np0 : Int} {m : Int} {r : Int} (h : kit_Pick np0 m = some r) :
    Ctr Try.prog 12 #[vI np0, vI m] [] []
      (fun rv own shr => rv = vI r ∧ own = [] ∧ shr = []) := by
  unfold kit_Pick at h
  refine Ctr.mk (args := [vI np0, vI m]) Try.func12 rfl rfl (fun R0 w0 B => ?_)
  refine Tk_seq ?_
  refine Tk_region ?_
  refine Tops_step rfl (OpT_assign rfl rfl rfl rfl) ?_
  refine Tops_nil ?_
  refine Tk_wkS (fr' := [(0, some (vI np0)), (1, some (vI m))]) (own' := []) (shr' := []) [0, 1] [] [] rfl rfl rfl rfl ?_
  refine Tk_seq ?_
  refine Tk_seq ?_
  refine Tk_region ?_
  refine Tops_step rfl (OpT_move rfl rfl rfl rfl) ?_
  refine Tops_step rfl (OpT_bin rfl rfl rfl rfl rfl (bin_lss_i (a := m) (b := (1 : Int)))) ?_
  refine Tops_nil ?_
  refine Tk_wkS (fr' := [(0, some (vI np0)), (1, some (vI m)), (6, some (vB (decide (m < (1 : Int)))))]) (own' := []) (shr' := []) [0, 1, 6] [] [] rfl rfl rfl rfl ?_
  rcases Bool.eq_false_or_eq_true (decide (m < (1 : Int))) with hg1 | hg1
  · replace h := br_t hg1 h
    refine Tk_condT (congrArg (fun b => some (Value.bool b)) hg1) ?_
    refine Tk_seq ?_
    refine Tk_region ?_
    refine Tops_step rfl (OpT_assign rfl rfl rfl rfl) ?_
    refine Tops_nil ?_
    refine Tk_wkS (fr' := [(4, some (vI (0 : Int)))]) (own' := []) (shr' := []) [4] [] [] rfl rfl rfl rfl ?_
    obtain rfl := Option.some.inj h
    exact Tk_retV rfl (resA (vs := [vI (0 : Int)]) rfl ⟨rfl, trivial⟩) [] [] rfl rfl rfl ⟨rfl, rfl, rfl⟩
  · replace h := br_f hg1 h
    refine Tk_condF (congrArg (fun b => some (Value.bool b)) hg1) ?_
    refine Tk_skip ?_
    refine Tk_seq ?_
    refine Tk_region ?_
    refine Tops_step rfl (OpT_move rfl rfl rfl rfl) ?_
    refine Tops_step rfl (OpT_move rfl rfl rfl rfl) ?_
    obtain ⟨hc1, h⟩ := chk_e h
    refine Tops_step rfl (OpT_bin rfl rfl rfl rfl rfl (bin_rem_i (a := np0) (b := m) (not_t hc1))) ?_
    refine Tops_step rfl (OpT_assign rfl rfl rfl rfl) ?_
    refine Tops_nil ?_
    refine Tk_wkS (fr' := [(0, some (vI (remi np0 m))), (1, some (vI m))]) (own' := []) (shr' := []) [0, 1] [] [] rfl rfl rfl rfl ?_
    refine Tk_seq ?_
    refine Tk_seq ?_
    refine Tk_region ?_
    refine Tops_step rfl (OpT_move rfl rfl rfl rfl) ?_
    refine Tops_step rfl (OpT_bin rfl rfl rfl rfl rfl (bin_lss_i (a := remi np0 m) (b := (0 : Int)))) ?_
    refine Tops_nil ?_
    refine Tk_wkS (fr' := [(0, some (vI (remi np0 m))), (1, some (vI m)), (11, some (vB (decide ((remi np0 m) < (0 : Int)))))]) (own' := []) (shr' := []) [0, 1, 11] [] [] rfl rfl rfl rfl ?_
    rcases Bool.eq_false_or_eq_true (decide ((remi np0 m) < (0 : Int))) with hg2 | hg2
    · replace h := br_t hg2 h
      refine Tk_condT (congrArg (fun b => some (Value.bool b)) hg2) ?_
      refine Tk_region ?_
      refine Tops_step rfl (OpT_move rfl rfl rfl rfl) ?_
      refine Tops_step rfl (OpT_move rfl rfl rfl rfl) ?_
      refine Tops_step rfl (OpT_bin rfl rfl rfl rfl rfl (bin_add_i (a := remi np0 m) (b := m))) ?_
      refine Tops_step rfl (OpT_assign rfl rfl rfl rfl) ?_
      refine Tops_nil ?_
      refine Tk_wkS (fr' := [(0, some (vI (wi ((remi np0 m) + m))))]) (own' := []) (shr' := []) [0] [] [] rfl rfl rfl rfl ?_
      refine Tk_seq ?_
      refine Tk_region ?_
      refine Tops_step rfl (OpT_move rfl rfl rfl rfl) ?_
      refine Tops_step rfl (OpT_assign rfl rfl rfl rfl) ?_
      refine Tops_nil ?_
      refine Tk_wkS (fr' := [(4, some (vI (wi ((remi np0 m) + m))))]) (own' := []) (shr' := []) [4] [] [] rfl rfl rfl rfl ?_
      obtain rfl := Option.some.inj h
      exact Tk_retV rfl (resA (vs := [vI (wi ((remi np0 m) + m))]) rfl ⟨rfl, trivial⟩) [] [] rfl rfl rfl ⟨rfl, rfl, rfl⟩
    · replace h := br_f hg2 h
      refine Tk_condF (congrArg (fun b => some (Value.bool b)) hg2) ?_
      refine Tk_skip ?_
      refine Tk_seq ?_
      refine Tk_region ?_
      refine Tops_step rfl (OpT_move rfl rfl rfl rfl) ?_
      refine Tops_step rfl (OpT_assign rfl rfl rfl rfl) ?_
      refine Tops_nil ?_
      refine Tk_wkS (fr' := [(4, some (vI (remi np0 m)))]) (own' := []) (shr' := []) [4] [] [] rfl rfl rfl rfl ?_
      obtain rfl := Option.some.inj h
      exact Tk_retV rfl (resA (vs := [vI (remi np0 m)]) rfl ⟨rfl, trivial⟩) [] [] rfl rfl rfl ⟨rfl, rfl, rfl⟩

set_option maxRecDepth 100000 in
set_option maxHeartbeats 4000000 in
theorem w_desc_PackedBytes {dp0 : Packed} {r : (List UInt8)} (h : desc_PackedBytes dp0 = some r) :
    Ctr Try.prog 14 #[.agg #[vU64 dp0.Addr, vU32 dp0.Len, vU16 dp0.ID, vU16 dp0.Flags]] [] []
      (fun rv own shr => ∃ (w1 : Value), rv = w1 ∧ own = [(rowS u8S w1 r)] ∧ shr = []) := by
  unfold desc_PackedBytes at h
  refine Ctr.mk (args := [.agg #[vU64 dp0.Addr, vU32 dp0.Len, vU16 dp0.ID, vU16 dp0.Flags]]) Try.func14 rfl rfl (fun R0 w0 B => ?_)
  refine Tk_seq ?_
  refine Tk_region ?_
  refine Tops_ex rfl (OpT_box rfl rfl rfl rfl) fun b1 => ?_
  refine Tops_step rfl (OpT_assign rfl rfl rfl rfl) ?_
  refine Tops_nil ?_
  refine Tk_wkS (fr' := [(1, some (.pointer (some ⟨b1, 0, none⟩)))]) (own' := [some (cellsR b1 31 [vU64 dp0.Addr, vU32 dp0.Len, vU16 dp0.ID, vU16 dp0.Flags])]) (shr' := []) [1] [0] [] rfl rfl rfl rfl ?_
  refine Tk_seq ?_
  refine Tk_region ?_
  refine Tops_ex rfl (OpT_alloc rfl rfl rfl tyZ60) fun b2 => ?_
  refine Tops_nil ?_
  refine Tk_seq ?_
  refine Tk_region ?_
  refine Tops_step rfl (OpT_fieldC rfl rfl rfl rfl fldF31x0) ?_
  refine Tops_step rfl (OpT_loadC rfl rfl rfl rfl tyF26 (i := 0) rfl rfl) ?_
  obtain ⟨put1, hx1, h⟩ := ob_e h
  refine Tops_exP rfl (OpT_call (w_desc_raw_put hx1) [1] [] rfl rfl rfl rfl rfl callee38 rfl rfl rfl rfl) ?_
  rintro _ ⟨_, _, _, ⟨rfl, rfl, rfl⟩, rfl⟩
  refine Tops_nil ?_
  refine Tk_wkS (fr' := [(1, some (.pointer (some ⟨b1, 0, none⟩))), (3, some (.pointer (some ⟨b2, 0, none⟩)))]) (own' := [some (cellsR b1 31 [vU64 dp0.Addr, vU32 dp0.Len, vU16 dp0.ID, vU16 dp0.Flags]), some (cellsR b2 60 (put1.map vU8))]) (shr' := []) [1, 3] [0, 2] [] rfl rfl rfl rfl ?_
  refine Tk_seq ?_
  refine Tk_region ?_
  refine Tops_step rfl (OpT_fieldC rfl rfl rfl rfl fldF31x1) ?_
  refine Tops_step rfl (OpT_loadC rfl rfl rfl rfl tyF27 (i := 0) rfl rfl) ?_
  refine Tops_step rfl (OpT_cnv rfl rfl rfl rfl (cnv_u32_u64 (n := dp0.Len) Try.underlying27 Try.underlying26)) ?_
  obtain ⟨put2, hx2, h⟩ := ob_e h
  refine Tops_exP rfl (OpT_call (w_desc_raw_put hx2) [1] [] rfl rfl rfl rfl rfl callee38 rfl rfl rfl rfl) ?_
  rintro _ ⟨_, _, _, ⟨rfl, rfl, rfl⟩, rfl⟩
  refine Tops_nil ?_
  refine Tk_wkS (fr' := [(1, some (.pointer (some ⟨b1, 0, none⟩))), (3, some (.pointer (some ⟨b2, 0, none⟩)))]) (own' := [some (cellsR b1 31 [vU64 dp0.Addr, vU32 dp0.Len, vU16 dp0.ID, vU16 dp0.Flags]), some (cellsR b2 60 (put2.map vU8))]) (shr' := []) [1, 3] [0, 2] [] rfl rfl rfl rfl ?_
  refine Tk_seq ?_
  refine Tk_region ?_
  refine Tops_step rfl (OpT_fieldC rfl rfl rfl rfl fldF31x2) ?_
  refine Tops_step rfl (OpT_loadC rfl rfl rfl rfl tyF22 (i := 0) rfl rfl) ?_
  refine Tops_step rfl (OpT_cnv rfl rfl rfl rfl (cnv_u16_u64 (n := dp0.ID) Try.underlying22 Try.underlying26)) ?_
  obtain ⟨put3, hx3, h⟩ := ob_e h
  refine Tops_exP rfl (OpT_call (w_desc_raw_put hx3) [1] [] rfl rfl rfl rfl rfl callee38 rfl rfl rfl rfl) ?_
  rintro _ ⟨_, _, _, ⟨rfl, rfl, rfl⟩, rfl⟩
  refine Tops_nil ?_
  refine Tk_wkS (fr' := [(1, some (.pointer (some ⟨b1, 0, none⟩))), (3, some (.pointer (some ⟨b2, 0, none⟩)))]) (own' := [some (cellsR b1 31 [vU64 dp0.Addr, vU32 dp0.Len, vU16 dp0.ID, vU16 dp0.Flags]), some (cellsR b2 60 (put3.map vU8))]) (shr' := []) [1, 3] [0, 2] [] rfl rfl rfl rfl ?_
  refine Tk_seq ?_
  refine Tk_region ?_
  refine Tops_step rfl (OpT_fieldC rfl rfl rfl rfl fldF31x3) ?_
  refine Tops_step rfl (OpT_loadC rfl rfl rfl rfl tyF22 (i := 0) rfl rfl) ?_
  refine Tops_step rfl (OpT_cnv rfl rfl rfl rfl (cnv_u16_u64 (n := dp0.Flags) Try.underlying22 Try.underlying26)) ?_
  obtain ⟨put4, hx4, h⟩ := ob_e h
  refine Tops_exP rfl (OpT_call (w_desc_raw_put hx4) [1] [] rfl rfl rfl rfl rfl callee38 rfl rfl rfl rfl) ?_
  rintro _ ⟨_, _, _, ⟨rfl, rfl, rfl⟩, rfl⟩
  refine Tops_nil ?_
  refine Tk_wkS (fr' := [(3, some (.pointer (some ⟨b2, 0, none⟩)))]) (own' := [some (cellsR b2 60 (put4.map vU8))]) (shr' := []) [3] [2] [] rfl rfl rfl rfl ?_
  refine Tk_seq ?_
  refine Tk_region ?_
  refine Tops_step rfl (OpT_sliceArr rfl rfl rfl rfl arrF60) ?_
  refine Tops_step rfl (OpT_assign rfl rfl rfl rfl) ?_
  refine Tops_nil ?_
  refine Tk_wkS (fr' := [(2, some (.slice (some ⟨b2, 0, none⟩) 16 16))]) (own' := [some (cellsR b2 60 (put4.map vU8))]) (shr' := []) [2] [0] [] rfl rfl rfl rfl ?_
  obtain ⟨hc1, h⟩ := chk_e h
  refine Tk_rowD u8S rfl (i := 0) (xs := put4) rfl (flat_one _) (len_of hc1) rfl ?_
  obtain rfl := Option.some.inj h
  exact Tk_retV rfl (resA (vs := [.slice (some ⟨b2, 0, none⟩) 16 16]) rfl ⟨rfl, trivial⟩) [0] [] rfl rfl rfl ⟨(.slice (some ⟨b2, 0, none⟩) 16 16), rfl, rfl, rfl⟩

theorem ws_desc_Table {l : List Desc} {vl1 : Value} {r : (List UInt8)} (h : desc_Table l = some r) :
    Ctr Try.prog 17 #[vl1] [] [Fact.sl DescS vl1 l]
      (fun rv own shr => ∃ (w1 : Value), rv = w1 ∧ own = [] ∧ shr = [Fact.sl u8S w1 r]) :=
  Ctr.sh (w_desc_Table h) (by rintro w1 _ _ ⟨_, rfl, rfl, rfl⟩; exact ⟨[], _, _, _, _, rfl, w1, rfl, rfl, rfl⟩)

set_option maxRecDepth 100000 in
set_option maxHeartbeats 4000000 in
theorem w_desc_ReadTable {b : List UInt8} {vb1 : Value} {r : ((List Desc) × Int)} (h : desc_ReadTable b = some r) :
    Ctr Try.prog 18 #[vb1] [] [Fact.sl u8S vb1 b]
      (fun rv own shr => ∃ (w1 : Value), rv = .tuple #[w1, vI r.2] ∧ own = [(rowS DescS w1 r.1)] ∧ shr = []) := by
  unfold desc_ReadTable at h
  refine Ctr.mk (args := [vb1]) Try.func18 rfl rfl (fun R0 w0 B => ?_)
  refine Tk_seq ?_
  refine Tk_region ?_
  refine Tops_step rfl (OpT_assign rfl rfl rfl rfl) ?_
  refine Tops_step rfl (OpT_assign rfl rfl rfl rfl) ?_
  refine Tops_nil ?_
  refine Tk_wkS (fr' := [(0, some (vb1)), (2, some (.slice none 0 0))]) (own' := []) (shr' := [Fact.sl u8S vb1 b]) [0, 2] [] [0] rfl rfl rfl rfl ?_
  refine Tk_seq ?_
  refine Tk_seq ?_
  refine Tk_region ?_
  refine Tops_step rfl (OpT_move rfl rfl rfl rfl) ?_
  refine Tops_step rfl (OpT_lenS rfl rfl rfl rfl Try.underlying34 (i := 0) rfl) ?_
  refine Tops_step rfl (OpT_bin rfl rfl rfl rfl rfl (bin_rem_i (a := len b) (b := (16 : Int)) rfl)) ?_
  refine Tops_step rfl (OpT_bin rfl rfl rfl rfl rfl (bin_neq_i (a := remi (len b) (16 : Int)) (b := (0 : Int)))) ?_
  refine Tops_nil ?_
  refine Tk_wkS (fr' := [(0, some (vb1)), (2, some (.slice none 0 0)), (9, some (vB ((remi (len b) (16 : Int)) != (0 : Int))))]) (own' := []) (shr' := [Fact.sl u8S vb1 b]) [0, 2, 9] [] [0] rfl rfl rfl rfl ?_
  rcases Bool.eq_false_or_eq_true ((remi (len b) (16 : Int)) != (0 : Int)) with hg1 | hg1
  · replace h := br_t hg1 h
    refine Tk_condT (congrArg (fun b => some (Value.bool b)) hg1) ?_
    refine Tk_seq ?_
    refine Tk_region ?_
    refine Tops_step rfl (OpT_assign rfl rfl rfl rfl) ?_
    refine Tops_step rfl (OpT_assign rfl rfl rfl rfl) ?_
    refine Tops_nil ?_
    refine Tk_wkS (fr' := [(2, some (.slice none 0 0)), (3, some (vI (4 : Int)))]) (own' := []) (shr' := []) [2, 3] [] [] rfl rfl rfl rfl ?_
    refine Tk_nilrow DescS ?_
    obtain rfl := Option.some.inj h
    exact Tk_retV rfl (resA (vs := [.slice none 0 0, vI (4 : Int)]) rfl ⟨rfl, rfl, trivial⟩) [0] [] rfl rfl rfl ⟨(.slice none 0 0), rfl, rfl, rfl⟩
  · replace h := br_f hg1 h
    refine Tk_condF (congrArg (fun b => some (Value.bool b)) hg1) ?_
    refine Tk_skip ?_
    refine Tk_seq ?_
    refine Tk_block ?_
    refine Tk_nilrow DescS ?_
    refine Tk_loopS (σ := (List UInt8) × (List Desc) × Value × Value) [0, 2] [0] [0] (fun s => ⟨[(0, some (s.2.2.1)), (2, some (s.2.2.2))], [some (rowS DescS s.2.2.2 s.2.1)], [Fact.sl u8S s.2.2.1 s.1]⟩) (fun nf s => desc_ReadTableL1 nf s.1 s.2.1 = some r) fuel (b, [], vb1, (.slice none 0 0)) h rfl rfl rfl rfl rfl (fun s h => by cases h) ?_
    rintro nf ⟨b1, l1, v1, v2⟩ h
    replace h : desc_ReadTableL1B (desc_ReadTableL1 nf) b1 l1 = some r := h
    unfold desc_ReadTableL1B at h
    refine Tk_seq ?_
    refine Tk_seq ?_
    refine Tk_region ?_
    refine Tops_step rfl (OpT_move rfl rfl rfl rfl) ?_
    refine Tops_step rfl (OpT_lenS rfl rfl rfl rfl Try.underlying34 (i := 0) rfl) ?_
    refine Tops_step rfl (OpT_bin rfl rfl rfl rfl rfl (bin_gtr_i (a := len b1) (b := (0 : Int)))) ?_
    refine Tops_nil ?_
    refine Tk_wkS (fr' := [(0, some (v1)), (2, some (v2)), (12, some (vB (decide ((len b1) > (0 : Int)))))]) (own' := [some (rowS DescS v2 l1)]) (shr' := [Fact.sl u8S v1 b1]) [0, 2, 12] [0] [0] rfl rfl rfl rfl ?_
    rcases Bool.eq_false_or_eq_true (decide ((len b1) > (0 : Int))) with hg2 | hg2
    · replace h := br_t hg2 h
      refine Tk_condT (congrArg (fun b => some (Value.bool b)) hg2) ?_
      refine Tk_skip ?_
      refine Tk_seq ?_
      refine Tk_block ?_
      refine Tk_seq ?_
      refine Tk_region ?_
      refine Tops_step rfl (OpT_move rfl rfl rfl rfl) ?_
      obtain ⟨hc1, h⟩ := chk_e h
      refine Tops_ex rfl (OpT_sliceH (m := (16 : Int)) rfl rfl rfl rfl rfl slF34 (i := 0) rfl hc1) fun v3 => ?_
      obtain ⟨read1, hx1, h⟩ := ob_e h
      refine Tops_exP rfl (OpT_call (w_desc_Read hx1) [] [1] rfl rfl rfl rfl rfl callee15 rfl rfl rfl rfl) ?_
      rintro _ ⟨_, _, _, ⟨rfl, rfl, rfl⟩, rfl⟩
      refine Tops_step rfl (OpT_move rfl rfl rfl rfl) ?_
      refine Tops_step rfl (OpT_extract rfl rfl rfl rfl rfl) ?_
      refine Tops_step rfl (OpT_extract rfl rfl rfl rfl rfl) ?_
      refine Tops_ex rfl (OpT_alloc rfl rfl rfl tyZ29) fun b2 => ?_
      refine Tops_step rfl (OpT_storeC (cs' := [vU64 read1.1.Addr, vU32 read1.1.Len, vU16 read1.1.Flags, vU16 read1.1.Next]) rfl rfl rfl rfl tyF29 (i := 1) rfl rfl rfl (one_of rfl) rfl) ?_
      refine Tops_step rfl (OpT_assign rfl rfl rfl rfl) ?_
      refine Tops_nil ?_
      refine Tk_wkS (fr' := [(0, some (v1)), (2, some (v2)), (4, some (.pointer (some ⟨b2, 0, none⟩)))]) (own' := [some (rowS DescS v2 l1), some (cellsR b2 29 [vU64 read1.1.Addr, vU32 read1.1.Len, vU16 read1.1.Flags, vU16 read1.1.Next])]) (shr' := [Fact.sl u8S v1 b1]) [0, 2, 4] [0, 1] [0] rfl rfl rfl rfl ?_
      refine Tk_region ?_
      refine Tops_step rfl (OpT_move rfl rfl rfl rfl) ?_
      refine Tops_step rfl (OpT_loadCA (vs := [vU64 read1.1.Addr, vU32 read1.1.Len, vU16 read1.1.Flags, vU16 read1.1.Next]) rfl rfl rfl rfl tyF29 (i := 1) rfl rfl rfl) ?_
      refine Tops_ex rfl (OpT_buildSlice (S := DescS) (xs := [read1.1]) (css := [[vU64 read1.1.Addr, vU32 read1.1.Len, vU16 read1.1.Flags, vU16 read1.1.Next]]) (cs := [vU64 read1.1.Addr, vU32 read1.1.Len, vU16 read1.1.Flags, vU16 read1.1.Next]) (e := 29) rfl rfl rfl rfl (bldF slF32 (by decide) (by kernel_rfl)) rfl rfl rfl rfl (rel_plainD (S := DescS) (xs := [read1.1]) (css := [[vU64 read1.1.Addr, vU32 read1.1.Len, vU16 read1.1.Flags, vU16 read1.1.Next]]) rfl rfl)) fun v4 => ?_
      refine Tops_retire (i := 2) rfl ?_
      obtain ⟨hc2, h⟩ := chk_e h
      refine Tops_ex rfl (OpT_append rfl rfl rfl rfl rfl slF32 (i := 0) (j := 1) rfl rfl hc2) fun v5 => ?_
      refine Tops_step rfl (OpT_assign rfl rfl rfl rfl) ?_
      refine Tops_nil ?_
      refine Tk_wkS (fr' := [(0, some (v1)), (2, some (v5))]) (own' := [some (rowS DescS v5 (l1 ++ [read1.1]))]) (shr' := [Fact.sl u8S v1 b1]) [0, 2] [0] [0] rfl rfl rfl rfl ?_
      refine Tk_blk ?_
      refine Tk_region ?_
      refine Tops_step rfl (OpT_move rfl rfl rfl rfl) ?_
      obtain ⟨hc3, h⟩ := chk_e h
      refine Tops_ex rfl (OpT_sliceL (l := (16 : Int)) rfl rfl rfl rfl rfl slF34 (i := 0) rfl hc3) fun v6 => ?_
      refine Tops_step rfl (OpT_assign rfl rfl rfl rfl) ?_
      refine Tops_nil ?_
      refine Tk_wkS (fr' := [(0, some (v6)), (2, some (v5))]) (own' := [some (rowS DescS v5 (l1 ++ [read1.1]))]) (shr' := [Fact.sl u8S v6 (sub b1 (16 : Int) (len b1))]) [0, 2] [0] [1] rfl rfl rfl rfl ?_
      exact Tk_backS (sub b1 (16 : Int) (len b1), l1 ++ [read1.1], v6, v5) h [0, 2] [0] [0] rfl rfl rfl rfl rfl
    · replace h := br_f hg2 h
      refine Tk_condF (congrArg (fun b => some (Value.bool b)) hg2) ?_
      refine Tk_exit _ rfl ?_
      refine Tk_seq ?_
      refine Tk_region ?_
      refine Tops_step rfl (OpT_move rfl rfl rfl rfl) ?_
      refine Tops_step rfl (OpT_assign rfl rfl rfl rfl) ?_
      refine Tops_step rfl (OpT_assign rfl rfl rfl rfl) ?_
      refine Tops_nil ?_
      refine Tk_wkS (fr' := [(2, some (v2)), (3, some (vI (0 : Int)))]) (own' := [some (rowS DescS v2 l1)]) (shr' := []) [2, 3] [0] [] rfl rfl rfl rfl ?_
      obtain rfl := Option.some.inj h
      exact Tk_retV rfl (resA (vs := [v2, vI (0 : Int)]) rfl ⟨rfl, rfl, trivial⟩) [0] [] rfl rfl rfl ⟨v2, rfl, rfl, rfl⟩

set_option maxRecDepth 100000 in
set_option maxHeartbeats 4000000 in
theorem w_desc_UsedWord {u : Used} {r : UInt64} (h : desc_UsedWord u = some r) :
    Ctr Try.prog 19 #[.agg #[vU32 u.ID, vU32 u.Len]] [] []
      (fun rv own shr => rv = vU64 r ∧ own = [] ∧ shr = []) := by
  unfold desc_UsedWord at h
  refine Ctr.mk (args := [.agg #[vU32 u.ID, vU32 u.Len]]) Try.func19 rfl rfl (fun R0 w0 B => ?_)
  refine Tk_seq ?_
  refine Tk_region ?_
  refine Tops_ex rfl (OpT_box rfl rfl rfl rfl) fun b1 => ?_
  refine Tops_step rfl (OpT_assign rfl rfl rfl rfl) ?_
  refine Tops_nil ?_
  refine Tk_wkS (fr' := [(1, some (.pointer (some ⟨b1, 0, none⟩)))]) (own' := [some (cellsR b1 49 [vU32 u.ID, vU32 u.Len])]) (shr' := []) [1] [0] [] rfl rfl rfl rfl ?_
  refine Tk_seq ?_
  refine Tk_region ?_
  refine Tops_step rfl (OpT_fieldC rfl rfl rfl rfl fldF49x0) ?_
  refine Tops_step rfl (OpT_loadC rfl rfl rfl rfl tyF27 (i := 0) rfl rfl) ?_
  refine Tops_step rfl (OpT_cnv rfl rfl rfl rfl (cnv_u32_u64 (n := u.ID) Try.underlying27 Try.underlying26)) ?_
  refine Tops_step rfl (OpT_fieldC rfl rfl rfl rfl fldF49x1) ?_
  refine Tops_step rfl (OpT_loadC rfl rfl rfl rfl tyF27 (i := 0) rfl rfl) ?_
  refine Tops_step rfl (OpT_cnv rfl rfl rfl rfl (cnv_u32_u64 (n := u.Len) Try.underlying27 Try.underlying26)) ?_
  refine Tops_step rfl (OpT_bin rfl rfl rfl rfl rfl (bin_shl_u64_u64 (a := u.Len.toUInt64) (n := (32 : UInt64)))) ?_
  refine Tops_step rfl (OpT_bin rfl rfl rfl rfl rfl (bin_or_u64 (a := u.ID.toUInt64) (b := shl64 u.Len.toUInt64 ((32 : UInt64).toNat)))) ?_
  refine Tops_step rfl (OpT_assign rfl rfl rfl rfl) ?_
  refine Tops_nil ?_
  refine Tk_wkS (fr' := [(2, some (vU64 (u.ID.toUInt64 ||| (shl64 u.Len.toUInt64 ((32 : UInt64).toNat)))))]) (own' := []) (shr' := []) [2] [] [] rfl rfl rfl rfl ?_
  obtain rfl := Option.some.inj h
  exact Tk_retV rfl (resA (vs := [vU64 (u.ID.toUInt64 ||| (shl64 u.Len.toUInt64 ((32 : UInt64).toNat)))]) rfl ⟨rfl, trivial⟩) [] [] rfl rfl rfl ⟨rfl, rfl, rfl⟩

set_option maxRecDepth 100000 in
set_option maxHeartbeats 4000000 in
theorem w_desc_EventWord {ep0 : Event} {r : UInt64} (h : desc_EventWord ep0 = some r) :
    Ctr Try.prog 20 #[.agg #[vU16 ep0.Off, vU16 ep0.Flags]] [] []
      (fun rv own shr => rv = vU64 r ∧ own = [] ∧ shr = []) := by
  unfold desc_EventWord at h
  refine Ctr.mk (args := [.agg #[vU16 ep0.Off, vU16 ep0.Flags]]) Try.func20 rfl rfl (fun R0 w0 B => ?_)
  refine Tk_seq ?_
  refine Tk_region ?_
  refine Tops_ex rfl (OpT_box rfl rfl rfl rfl) fun b1 => ?_
  refine Tops_step rfl (OpT_assign rfl rfl rfl rfl) ?_
  refine Tops_nil ?_
  refine Tk_wkS (fr' := [(1, some (.pointer (some ⟨b1, 0, none⟩)))]) (own' := [some (cellsR b1 52 [vU16 ep0.Off, vU16 ep0.Flags])]) (shr' := []) [1] [0] [] rfl rfl rfl rfl ?_
  refine Tk_seq ?_
  refine Tk_region ?_
  refine Tops_step rfl (OpT_fieldC rfl rfl rfl rfl fldF52x0) ?_
  refine Tops_step rfl (OpT_loadC rfl rfl rfl rfl tyF22 (i := 0) rfl rfl) ?_
  refine Tops_step rfl (OpT_cnv rfl rfl rfl rfl (cnv_u16_u64 (n := ep0.Off) Try.underlying22 Try.underlying26)) ?_
  refine Tops_step rfl (OpT_fieldC rfl rfl rfl rfl fldF52x1) ?_
  refine Tops_step rfl (OpT_loadC rfl rfl rfl rfl tyF22 (i := 0) rfl rfl) ?_
  refine Tops_step rfl (OpT_cnv rfl rfl rfl rfl (cnv_u16_u64 (n := ep0.Flags) Try.underlying22 Try.underlying26)) ?_
  refine Tops_step rfl (OpT_bin rfl rfl rfl rfl rfl (bin_shl_u64_u64 (a := ep0.Flags.toUInt64) (n := (16 : UInt64)))) ?_
  refine Tops_step rfl (OpT_bin rfl rfl rfl rfl rfl (bin_or_u64 (a := ep0.Off.toUInt64) (b := shl64 ep0.Flags.toUInt64 ((16 : UInt64).toNat)))) ?_
  refine Tops_step rfl (OpT_assign rfl rfl rfl rfl) ?_
  refine Tops_nil ?_
  refine Tk_wkS (fr' := [(2, some (vU64 (ep0.Off.toUInt64 ||| (shl64 ep0.Flags.toUInt64 ((16 : UInt64).toNat)))))]) (own' := []) (shr' := []) [2] [] [] rfl rfl rfl rfl ?_
  obtain rfl := Option.some.inj h
  exact Tk_retV rfl (resA (vs := [vU64 (ep0.Off.toUInt64 ||| (shl64 ep0.Flags.toUInt64 ((16 : UInt64).toNat)))]) rfl ⟨rfl, trivial⟩) [] [] rfl rfl rfl ⟨rfl, rfl, rfl⟩

set_option maxRecDepth 100000 in
set_option maxHeartbeats 4000000 in
theorem w_kit_SameDescs {ap0 : List Desc} {b : List Desc} {vap01 : Value} {vb1 : Value} {r : Bool} (h : kit_SameDescs ap0 b = some r) :
    Ctr Try.prog 23 #[vap01, vb1] [] [Fact.sl DescS vap01 ap0, Fact.sl DescS vb1 b]
      (fun rv own shr => rv = vB r ∧ own = [] ∧ shr = []) := by
  unfold kit_SameDescs at h
  refine Ctr.mk (args := [vap01, vb1]) Try.func23 rfl rfl (fun R0 w0 B => ?_)
  refine Tk_seq ?_
  refine Tk_region ?_
  refine Tops_step rfl (OpT_assign rfl rfl rfl rfl) ?_
  refine Tops_nil ?_
  refine Tk_wkS (fr' := [(0, some (vap01)), (1, some (vb1))]) (own' := []) (shr' := [Fact.sl DescS vap01 ap0, Fact.sl DescS vb1 b]) [0, 1] [] [0, 1] rfl rfl rfl rfl ?_
  refine Tk_seq ?_
  refine Tk_seq ?_
  refine Tk_region ?_
  refine Tops_step rfl (OpT_move rfl rfl rfl rfl) ?_
  refine Tops_step rfl (OpT_lenS rfl rfl rfl rfl Try.underlying32 (i := 0) rfl) ?_
  refine Tops_step rfl (OpT_move rfl rfl rfl rfl) ?_
  refine Tops_step rfl (OpT_lenS rfl rfl rfl rfl Try.underlying32 (i := 1) rfl) ?_
  refine Tops_step rfl (OpT_bin rfl rfl rfl rfl rfl (bin_neq_i (a := len ap0) (b := len b))) ?_
  refine Tops_nil ?_
  refine Tk_wkS (fr' := [(0, some (vap01)), (1, some (vb1)), (10, some (vB ((len ap0) != (len b))))]) (own' := []) (shr' := [Fact.sl DescS vap01 ap0, Fact.sl DescS vb1 b]) [0, 1, 10] [] [0, 1] rfl rfl rfl rfl ?_
  rcases Bool.eq_false_or_eq_true ((len ap0) != (len b)) with hg1 | hg1
  · replace h := br_t hg1 h
    refine Tk_condT (congrArg (fun b => some (Value.bool b)) hg1) ?_
    refine Tk_seq ?_
    refine Tk_region ?_
    refine Tops_step rfl (OpT_assign rfl rfl rfl rfl) ?_
    refine Tops_nil ?_
    refine Tk_wkS (fr' := [(4, some (vB false))]) (own' := []) (shr' := []) [4] [] [] rfl rfl rfl rfl ?_
    obtain rfl := Option.some.inj h
    exact Tk_retV rfl (resA (vs := [vB false]) rfl ⟨rfl, trivial⟩) [] [] rfl rfl rfl ⟨rfl, rfl, rfl⟩
  · replace h := br_f hg1 h
    refine Tk_condF (congrArg (fun b => some (Value.bool b)) hg1) ?_
    refine Tk_skip ?_
    refine Tk_seq ?_
    refine Tk_seq ?_
    refine Tk_region ?_
    refine Tops_step rfl (OpT_assign rfl rfl rfl rfl) ?_
    refine Tops_nil ?_
    refine Tk_wkS (fr' := [(0, some (vap01)), (1, some (vb1)), (5, some (vI (0 : Int)))]) (own' := []) (shr' := [Fact.sl DescS vap01 ap0, Fact.sl DescS vb1 b]) [0, 1, 5] [] [0, 1] rfl rfl rfl rfl ?_
    refine Tk_block ?_
    refine Tk_loopS (σ := Int) [0, 1, 5] [] [0, 1] (fun s => ⟨[(0, some (vap01)), (1, some (vb1)), (5, some (vI s))], [], [Fact.sl DescS vap01 ap0, Fact.sl DescS vb1 b]⟩) (fun nf s => kit_SameDescsL1 ap0 b nf s = some r) fuel (0 : Int) h rfl rfl rfl rfl rfl (fun s h => by cases h) ?_
    rintro nf i1 h
    replace h : kit_SameDescsL1B ap0 b (kit_SameDescsL1 ap0 b nf) i1 = some r := h
    unfold kit_SameDescsL1B at h
    refine Tk_seq ?_
    refine Tk_seq ?_
    refine Tk_region ?_
    refine Tops_step rfl (OpT_move rfl rfl rfl rfl) ?_
    refine Tops_step rfl (OpT_move rfl rfl rfl rfl) ?_
    refine Tops_step rfl (OpT_lenS rfl rfl rfl rfl Try.underlying32 (i := 0) rfl) ?_
    refine Tops_step rfl (OpT_bin rfl rfl rfl rfl rfl (bin_lss_i (a := i1) (b := len ap0))) ?_
    refine Tops_nil ?_
    refine Tk_wkS (fr' := [(0, some (vap01)), (1, some (vb1)), (5, some (vI i1)), (14, some (vB (decide (i1 < (len ap0)))))]) (own' := []) (shr' := [Fact.sl DescS vap01 ap0, Fact.sl DescS vb1 b]) [0, 1, 5, 14] [] [0, 1] rfl rfl rfl rfl ?_
    rcases Bool.eq_false_or_eq_true (decide (i1 < (len ap0))) with hg2 | hg2
    · replace h := br_t hg2 h
      refine Tk_condT (congrArg (fun b => some (Value.bool b)) hg2) ?_
      refine Tk_skip ?_
      refine Tk_seq ?_
      refine Tk_block ?_
      refine Tk_seq ?_
      refine Tk_drawT (by kernel_rfl) ?_
      refine TA_tb [0, 0, 3, 7, 0, 0, 48, 112, 255] (by kernel_rfl) fun htb => ?_
      refine TA_wkS (fr' := [(0, some (vap01)), (1, some (vb1)), (5, some (vI i1))]) (own' := []) (shr' := [Fact.sl DescS vap01 ap0, Fact.sl DescS vb1 b]) [0, 1, 5] [] [0, 1] rfl rfl rfl rfl ?_
      obtain ⟨d1, hx1, h⟩ := ob_e h
      obtain ⟨d2, hx2, h⟩ := ob_e h
      refine TA_seg (lo := 0) (hi := 8) htb rfl rfl (by kernel_rfl) (fun c L a w => ∃ (p1 : Value), ∃ (p2 : Value), Sat c ⟨[(0, some (vap01)), (1, some (vb1)), (5, some (vI i1)), (17, bif L 0 then some (vap01) else none), (18, bif L 1 then some (vI i1) else none), (19, bif L 2 then some (p1) else none), (20, bif L 3 then some (.agg #[vU64 d1.Addr, vU32 d1.Len, vU16 d1.Flags, vU16 d1.Next]) else none), (21, bif L 4 then some (vb1) else none), (22, bif L 5 then some (vI i1) else none), (23, bif L 6 then some (p2) else none), (24, bif L 7 then some (.agg #[vU64 d2.Addr, vU32 d2.Len, vU16 d2.Flags, vU16 d2.Next]) else none)], [], [Fact.sl DescS vap01 ap0, Fact.sl DescS vb1 b, (bif L 2 then Fact.pt DescS p1 d1 else Fact.tt), (bif L 6 then Fact.pt DescS p2 d2 else Fact.tt)]⟩ a w) [([], [2, 3]), ([], [2, 3]), ([0, 1], [3]), ([0, 1, 2], []), ([], [6, 7]), ([], [6, 7]), ([4, 5], [7]), ([4, 5, 6], [])] rfl (by kernel_rfl) ?_ (steps_cons ?_ (steps_cons ?_ (steps_cons ?_ (steps_cons ?_ (steps_cons ?_ (steps_cons ?_ (steps_cons ?_ (steps_cons ?_ (steps_nil))))))))) ?_
      · intro a w hs
        exact ⟨undef, undef, hs.startF [17, 18, 19, 20, 21, 22, 23, 24] [] [0, 1, 2, 3] rfl rfl rfl rfl⟩
      · intro L a w hv K Q hK
        obtain ⟨p1, p2, hs⟩ := hv
        refine wpOp_go rfl rfl hs (OpT_move rfl rfl rfl rfl) ?_
        rintro _ rfl a' w' hs'
        exact hK a' w' ⟨p1, p2, hs'.putF (i := 3) rfl [] [0, 1, 2, 3] rfl rfl rfl rfl⟩
      · intro L a w hv K Q hK
        obtain ⟨p1, p2, hs⟩ := hv
        refine wpOp_go rfl rfl hs (OpT_move rfl rfl rfl rfl) ?_
        rintro _ rfl a' w' hs'
        exact hK a' w' ⟨p1, p2, hs'.putF (i := 4) rfl [] [0, 1, 2, 3] rfl rfl rfl rfl⟩
      · intro L a w hv K Q hK
        obtain ⟨p1, p2, hs⟩ := hv
        refine wpOp_go rfl rfl hs (OpT_idxS rfl rfl rfl rfl rfl slF32 (i := 0) rfl hx1) ?_
        rintro _ ⟨p1', rfl⟩ a' w' hs'
        exact hK a' w' ⟨p1', p2, hs'.putF (i := 5) rfl [] [0, 1, 4, 3] rfl rfl rfl rfl⟩
      · intro L a w hv K Q hK
        obtain ⟨p1, p2, hs⟩ := hv
        refine wpOp_go rfl rfl hs (OpT_loadPA (vs := [vU64 d1.Addr, vU32 d1.Len, vU16 d1.Flags, vU16 d1.Next]) rfl rfl rfl rfl tyF29 (i := 2) rfl rfl) ?_
        rintro _ rfl a' w' hs'
        exact hK a' w' ⟨p1, p2, hs'.putF (i := 6) rfl [] [0, 1, 2, 3] rfl rfl rfl rfl⟩
      · intro L a w hv K Q hK
        obtain ⟨p1, p2, hs⟩ := hv
        refine wpOp_go rfl rfl hs (OpT_move rfl rfl rfl rfl) ?_
        rintro _ rfl a' w' hs'
        exact hK a' w' ⟨p1, p2, hs'.putF (i := 7) rfl [] [0, 1, 2, 3] rfl rfl rfl rfl⟩
      · intro L a w hv K Q hK
        obtain ⟨p1, p2, hs⟩ := hv
        refine wpOp_go rfl rfl hs (OpT_move rfl rfl rfl rfl) ?_
        rintro _ rfl a' w' hs'
        exact hK a' w' ⟨p1, p2, hs'.putF (i := 8) rfl [] [0, 1, 2, 3] rfl rfl rfl rfl⟩
      · intro L a w hv K Q hK
        obtain ⟨p1, p2, hs⟩ := hv
        refine wpOp_go rfl rfl hs (OpT_idxS rfl rfl rfl rfl rfl slF32 (i := 1) rfl hx2) ?_
        rintro _ ⟨p2', rfl⟩ a' w' hs'
        exact hK a' w' ⟨p1, p2', hs'.putF (i := 9) rfl [] [0, 1, 2, 4] rfl rfl rfl rfl⟩
      · intro L a w hv K Q hK
        obtain ⟨p1, p2, hs⟩ := hv
        refine wpOp_go rfl rfl hs (OpT_loadPA (vs := [vU64 d2.Addr, vU32 d2.Len, vU16 d2.Flags, vU16 d2.Next]) rfl rfl rfl rfl tyF29 (i := 3) rfl rfl) ?_
        rintro _ rfl a' w' hs'
        exact hK a' w' ⟨p1, p2, hs'.putF (i := 10) rfl [] [0, 1, 2, 3] rfl rfl rfl rfl⟩
      · intro L a w hL hv
        rw [allTrue hL] at hv
        obtain ⟨p1, p2, hs⟩ := hv
        refine (show TA _ _ _ 8 ⟨[(0, some (vap01)), (1, some (vb1)), (5, some (vI i1)), (20, some (.agg #[vU64 d1.Addr, vU32 d1.Len, vU16 d1.Flags, vU16 d1.Next])), (24, some (.agg #[vU64 d2.Addr, vU32 d2.Len, vU16 d2.Flags, vU16 d2.Next]))], [], [Fact.sl DescS vap01 ap0, Fact.sl DescS vb1 b]⟩ from ?_) a w (hs.wkS [0, 1, 5, 20, 24] [] [0, 1] rfl rfl rfl rfl)
        clear hs hL
        refine TA_step htb (by kernel_rfl) rfl rfl (OpT_bin rfl rfl rfl rfl rfl (eqT29_neq d1 d2)) ?_
        refine TA_end rfl ?_
        refine Tk_wkS (fr' := [(0, some (vap01)), (1, some (vb1)), (5, some (vI i1)), (25, some (vB (d1 != d2)))]) (own' := []) (shr' := [Fact.sl DescS vap01 ap0, Fact.sl DescS vb1 b]) [0, 1, 5, 25] [] [0, 1] rfl rfl rfl rfl ?_
        rcases Bool.eq_false_or_eq_true (d1 != d2) with hg3 | hg3
        · replace h := br_t hg3 h
          refine Tk_condT (congrArg (fun b => some (Value.bool b)) hg3) ?_
          refine Tk_seq ?_
          refine Tk_region ?_
          refine Tops_step rfl (OpT_assign rfl rfl rfl rfl) ?_
          refine Tops_nil ?_
          refine Tk_wkS (fr' := [(4, some (vB false))]) (own' := []) (shr' := []) [4] [] [] rfl rfl rfl rfl ?_
          obtain rfl := Option.some.inj h
          exact Tk_retV rfl (resA (vs := [vB false]) rfl ⟨rfl, trivial⟩) [] [] rfl rfl rfl ⟨rfl, rfl, rfl⟩
        · replace h := br_f hg3 h
          refine Tk_condF (congrArg (fun b => some (Value.bool b)) hg3) ?_
          refine Tk_skip ?_
          refine Tk_blk ?_
          refine Tk_region ?_
          refine Tops_step rfl (OpT_move rfl rfl rfl rfl) ?_
          refine Tops_step rfl (OpT_bin rfl rfl rfl rfl rfl (bin_add_i (a := i1) (b := (1 : Int)))) ?_
          refine Tops_step rfl (OpT_assign rfl rfl rfl rfl) ?_
          refine Tops_nil ?_
          refine Tk_wkS (fr' := [(0, some (vap01)), (1, some (vb1)), (5, some (vI (wi (i1 + (1 : Int)))))]) (own' := []) (shr' := [Fact.sl DescS vap01 ap0, Fact.sl DescS vb1 b]) [0, 1, 5] [] [0, 1] rfl rfl rfl rfl ?_
          exact Tk_backS (wi (i1 + (1 : Int))) h [0, 1, 5] [] [0, 1] rfl rfl rfl rfl rfl
    · replace h := br_f hg2 h
      refine Tk_condF (congrArg (fun b => some (Value.bool b)) hg2) ?_
      refine Tk_exit _ rfl ?_
      refine Tk_seq ?_
      refine Tk_region ?_
      refine Tops_step rfl (OpT_assign rfl rfl rfl rfl) ?_
      refine Tops_nil ?_
      refine Tk_wkS (fr' := [(4, some (vB true))]) (own' := []) (shr' := []) [4] [] [] rfl rfl rfl rfl ?_
      obtain rfl := Option.some.inj h
      exact Tk_retV rfl (resA (vs := [vB true]) rfl ⟨rfl, trivial⟩) [] [] rfl rfl rfl ⟨rfl, rfl, rfl⟩

theorem ws_desc_Bytes {dp0 : Desc} {r : (List UInt8)} (h : desc_Bytes dp0 = some r) :
    Ctr Try.prog 13 #[.agg #[vU64 dp0.Addr, vU32 dp0.Len, vU16 dp0.Flags, vU16 dp0.Next]] [] []
      (fun rv own shr => ∃ (w1 : Value), rv = w1 ∧ own = [] ∧ shr = [Fact.sl u8S w1 r]) :=
  Ctr.sh (w_desc_Bytes h) (by rintro w1 _ _ ⟨_, rfl, rfl, rfl⟩; exact ⟨[], _, _, _, _, rfl, w1, rfl, rfl, rfl⟩)

theorem ws_desc_PackedBytes {dp0 : Packed} {r : (List UInt8)} (h : desc_PackedBytes dp0 = some r) :
    Ctr Try.prog 14 #[.agg #[vU64 dp0.Addr, vU32 dp0.Len, vU16 dp0.ID, vU16 dp0.Flags]] [] []
      (fun rv own shr => ∃ (w1 : Value), rv = w1 ∧ own = [] ∧ shr = [Fact.sl u8S w1 r]) :=
  Ctr.sh (w_desc_PackedBytes h) (by rintro w1 _ _ ⟨_, rfl, rfl, rfl⟩; exact ⟨[], _, _, _, _, rfl, w1, rfl, rfl, rfl⟩)

set_option maxRecDepth 100000 in
set_option maxHeartbeats 4000000 in
theorem w_desc_ReadUsed {wp0 : UInt64} {r : Used} (h : desc_ReadUsed wp0 = some r) :
    Ctr Try.prog 21 #[vU64 wp0] [] []
      (fun rv own shr => rv = .agg #[vU32 r.ID, vU32 r.Len] ∧ own = [] ∧ shr = []) := by
  unfold desc_ReadUsed at h
  refine Ctr.mk (args := [vU64 wp0]) Try.func21 rfl rfl (fun R0 w0 B => ?_)
  refine Tk_seq ?_
  refine Tk_region ?_
  refine Tops_ex rfl (OpT_alloc rfl rfl rfl tyZ49) fun b1 => ?_
  refine Tops_nil ?_
  refine Tk_seq ?_
  refine Tk_region ?_
  refine Tops_step rfl (OpT_move rfl rfl rfl rfl) ?_
  refine Tops_step rfl (OpT_cnv rfl rfl rfl rfl (cnv_u64_u32 (n := wp0) Try.underlying26 Try.underlying27)) ?_
  refine Tops_step rfl (OpT_move rfl rfl rfl rfl) ?_
  refine Tops_step rfl (OpT_bin rfl rfl rfl rfl rfl (bin_shr_u64_u64 (a := wp0) (n := (32 : UInt64)))) ?_
  refine Tops_step rfl (OpT_cnv rfl rfl rfl rfl (cnv_u64_u32 (n := shr64 wp0 ((32 : UInt64).toNat)) Try.underlying26 Try.underlying27)) ?_
  refine Tops_step rfl (OpT_build (v := .agg #[vU32 wp0.toUInt32, vU32 ((shr64 wp0 ((32 : UInt64).toNat)).toUInt32)]) rfl rfl rfl rfl (bldV (by kernel_rfl))) ?_
  refine Tops_step rfl (OpT_storeC (cs' := [vU32 wp0.toUInt32, vU32 ((shr64 wp0 ((32 : UInt64).toNat)).toUInt32)]) rfl rfl rfl rfl tyF49 (i := 0) rfl rfl rfl (one_of rfl) rfl) ?_
  refine Tops_nil ?_
  refine Tk_wkS (fr' := [(2, some (.pointer (some ⟨b1, 0, none⟩)))]) (own' := [some (cellsR b1 49 [vU32 wp0.toUInt32, vU32 ((shr64 wp0 ((32 : UInt64).toNat)).toUInt32)])]) (shr' := []) [2] [0] [] rfl rfl rfl rfl ?_
  obtain rfl := Option.some.inj h
  exact Tk_retV rfl (resA (vs := [.agg #[vU32 wp0.toUInt32, vU32 ((shr64 wp0 ((32 : UInt64).toNat)).toUInt32)]]) rfl ⟨⟨_, 0, _, _, _, rfl, rfl, .inl ⟨tyF49, rfl, rfl⟩⟩, trivial⟩) [] [] rfl rfl rfl ⟨rfl, rfl, rfl⟩

set_option maxRecDepth 100000 in
set_option maxHeartbeats 4000000 in
theorem w_desc_ReadEvent {wp0 : UInt64} {r : Event} (h : desc_ReadEvent wp0 = some r) :
    Ctr Try.prog 22 #[vU64 wp0] [] []
      (fun rv own shr => rv = .agg #[vU16 r.Off, vU16 r.Flags] ∧ own = [] ∧ shr = []) := by
  unfold desc_ReadEvent at h
  refine Ctr.mk (args := [vU64 wp0]) Try.func22 rfl rfl (fun R0 w0 B => ?_)
  refine Tk_seq ?_
  refine Tk_region ?_
  refine Tops_ex rfl (OpT_alloc rfl rfl rfl tyZ52) fun b1 => ?_
  refine Tops_nil ?_
  refine Tk_seq ?_
  refine Tk_region ?_
  refine Tops_step rfl (OpT_move rfl rfl rfl rfl) ?_
  refine Tops_step rfl (OpT_cnv rfl rfl rfl rfl (cnv_u64_u16 (n := wp0) Try.underlying26 Try.underlying22)) ?_
  refine Tops_step rfl (OpT_move rfl rfl rfl rfl) ?_
  refine Tops_step rfl (OpT_bin rfl rfl rfl rfl rfl (bin_shr_u64_u64 (a := wp0) (n := (16 : UInt64)))) ?_
  refine Tops_step rfl (OpT_cnv rfl rfl rfl rfl (cnv_u64_u16 (n := shr64 wp0 ((16 : UInt64).toNat)) Try.underlying26 Try.underlying22)) ?_
  refine Tops_step rfl (OpT_build (v := .agg #[vU16 wp0.toUInt16, vU16 ((shr64 wp0 ((16 : UInt64).toNat)).toUInt16)]) rfl rfl rfl rfl (bldV (by kernel_rfl))) ?_
  refine Tops_step rfl (OpT_storeC (cs' := [vU16 wp0.toUInt16, vU16 ((shr64 wp0 ((16 : UInt64).toNat)).toUInt16)]) rfl rfl rfl rfl tyF52 (i := 0) rfl rfl rfl (one_of rfl) rfl) ?_
  refine Tops_nil ?_
  refine Tk_wkS (fr' := [(2, some (.pointer (some ⟨b1, 0, none⟩)))]) (own' := [some (cellsR b1 52 [vU16 wp0.toUInt16, vU16 ((shr64 wp0 ((16 : UInt64).toNat)).toUInt16)])]) (shr' := []) [2] [0] [] rfl rfl rfl rfl ?_
  obtain rfl := Option.some.inj h
  exact Tk_retV rfl (resA (vs := [.agg #[vU16 wp0.toUInt16, vU16 ((shr64 wp0 ((16 : UInt64).toNat)).toUInt16)]]) rfl ⟨⟨_, 0, _, _, _, rfl, rfl, .inl ⟨tyF52, rfl, rfl⟩⟩, trivial⟩) [] [] rfl rfl rfl ⟨rfl, rfl, rfl⟩

set_option maxRecDepth 100000 in
set_option maxHeartbeats 4000000 in
theorem w_kit_Own {b : List UInt8} {vb1 : Value} {r : (List UInt8)} (h : kit_Own b = some r) :
    Ctr Try.prog 24 #[vb1] [] [Fact.sl u8S vb1 b]
      (fun rv own shr => ∃ (w1 : Value), rv = w1 ∧ own = [(rowS u8S w1 r)] ∧ shr = []) := by
  unfold kit_Own at h
  refine Ctr.mk (args := [vb1]) Try.func24 rfl rfl (fun R0 w0 B => ?_)
  refine Tk_seq ?_
  refine Tk_region ?_
  refine Tops_step rfl (OpT_assign rfl rfl rfl rfl) ?_
  refine Tops_nil ?_
  refine Tk_wkS (fr' := [(0, some (vb1))]) (own' := []) (shr' := [Fact.sl u8S vb1 b]) [0] [] [0] rfl rfl rfl rfl ?_
  refine Tk_seq ?_
  refine Tk_region ?_
  refine Tops_ex rfl (OpT_buildSlice (S := u8S) (xs := ([] : List UInt8)) (css := []) (cs := []) (e := 5) rfl rfl rfl rfl (bldF slF34 (by decide) (by kernel_rfl)) rfl rfl rfl rfl (rel_plainD (S := u8S) (xs := ([] : List UInt8)) (css := []) rfl rfl)) fun v1 => ?_
  refine Tops_step rfl (OpT_move rfl rfl rfl rfl) ?_
  obtain ⟨hc1, h⟩ := chk_e h
  refine Tops_ex rfl (OpT_append rfl rfl rfl rfl rfl slF34 (i := 0) (j := 0) rfl rfl hc1) fun v2 => ?_
  refine Tops_step rfl (OpT_assign rfl rfl rfl rfl) ?_
  refine Tops_nil ?_
  refine Tk_wkS (fr' := [(2, some (v2))]) (own' := [some (rowS u8S v2 b)]) (shr' := []) [2] [0] [] rfl rfl rfl rfl ?_
  obtain rfl := Option.some.inj h
  exact Tk_retV rfl (resA (vs := [v2]) rfl ⟨rfl, trivial⟩) [0] [] rfl rfl rfl ⟨v2, rfl, rfl, rfl⟩

set_option maxRecDepth 100000 in
set_option maxHeartbeats 4000000 in
theorem w_ref_get03 {b : List UInt8} {atp1 : Int} {np2 : Int} {vb1 : Value} {r : UInt64} (h : ref_get03 b atp1 np2 = some r) :
    Ctr Try.prog 40 #[vb1, vI atp1, vI np2] [] [Fact.sl u8S vb1 b]
      (fun rv own shr => rv = vU64 r ∧ own = [] ∧ shr = []) := by
  unfold ref_get03 at h
  refine Ctr.mk (args := [vb1, vI atp1, vI np2]) Try.func40 rfl rfl (fun R0 w0 B => ?_)
  refine Tk_seq ?_
  refine Tk_region ?_
  refine Tops_step rfl (OpT_assign rfl rfl rfl rfl) ?_
  refine Tops_nil ?_
  refine Tk_wkS (fr' := [(0, some (vb1)), (1, some (vI atp1)), (2, some (vI np2))]) (own' := []) (shr' := [Fact.sl u8S vb1 b]) [0, 1, 2] [] [0] rfl rfl rfl rfl ?_
  refine Tk_seq ?_
  refine Tk_region ?_
  refine Tops_step rfl (OpT_assign rfl rfl rfl rfl) ?_
  refine Tops_nil ?_
  refine Tk_seq ?_
  refine Tk_seq ?_
  refine Tk_region ?_
  refine Tops_step rfl (OpT_move rfl rfl rfl rfl) ?_
  refine Tops_step rfl (OpT_bin rfl rfl rfl rfl rfl (bin_sub_i (a := np2) (b := (1 : Int)))) ?_
  refine Tops_step rfl (OpT_assign rfl rfl rfl rfl) ?_
  refine Tops_nil ?_
  refine Tk_wkS (fr' := [(0, some (vb1)), (1, some (vI atp1)), (7, some (vU64 (0 : UInt64))), (8, some (vI (wi (np2 - (1 : Int)))))]) (own' := []) (shr' := [Fact.sl u8S vb1 b]) [0, 1, 7, 8] [] [0] rfl rfl rfl rfl ?_
  refine Tk_block ?_
  refine Tk_loopS (σ := UInt64 × Int) [0, 1, 7, 8] [] [0] (fun s => ⟨[(0, some (vb1)), (1, some (vI atp1)), (7, some (vU64 s.1)), (8, some (vI s.2))], [], [Fact.sl u8S vb1 b]⟩) (fun nf s => ref_get03L1 b atp1 nf s.1 s.2 = some r) fuel ((0 : UInt64), wi (np2 - (1 : Int))) h rfl rfl rfl rfl rfl (fun s h => by cases h) ?_
  rintro nf ⟨v1, i1⟩ h
  replace h : ref_get03L1B b atp1 (ref_get03L1 b atp1 nf) v1 i1 = some r := h
  unfold ref_get03L1B at h
  refine Tk_seq ?_
  refine Tk_seq ?_
  refine Tk_region ?_
  refine Tops_step rfl (OpT_move rfl rfl rfl rfl) ?_
  refine Tops_step rfl (OpT_bin rfl rfl rfl rfl rfl (bin_geq_i (a := i1) (b := (0 : Int)))) ?_
  refine Tops_nil ?_
  refine Tk_wkS (fr' := [(0, some (vb1)), (1, some (vI atp1)), (7, some (vU64 v1)), (8, some (vI i1)), (12, some (vB (decide (i1 ≥ (0 : Int)))))]) (own' := []) (shr' := [Fact.sl u8S vb1 b]) [0, 1, 7, 8, 12] [] [0] rfl rfl rfl rfl ?_
  rcases Bool.eq_false_or_eq_true (decide (i1 ≥ (0 : Int))) with hg1 | hg1
  · replace h := br_t hg1 h
    refine Tk_condT (congrArg (fun b => some (Value.bool b)) hg1) ?_
    refine Tk_skip ?_
    refine Tk_seq ?_
    refine Tk_block ?_
    refine Tk_region ?_
    refine Tops_step rfl (OpT_move rfl rfl rfl rfl) ?_
    refine Tops_step rfl (OpT_bin rfl rfl rfl rfl rfl (bin_mul_u64 (a := (256 : UInt64)) (b := v1))) ?_
    refine Tops_step rfl (OpT_move rfl rfl rfl rfl) ?_
    refine Tops_step rfl (OpT_move rfl rfl rfl rfl) ?_
    refine Tops_step rfl (OpT_move rfl rfl rfl rfl) ?_
    refine Tops_step rfl (OpT_bin rfl rfl rfl rfl rfl (bin_add_i (a := atp1) (b := i1))) ?_
    obtain ⟨y1, hx1, h⟩ := ob_e h
    refine Tops_ex rfl (OpT_idxS rfl rfl rfl rfl rfl slF34 (i := 0) rfl hx1) fun p1 => ?_
    refine Tops_step rfl (OpT_loadP rfl rfl rfl rfl tyF5 (i := 1) rfl rfl) ?_
    refine Tops_step rfl (OpT_cnv rfl rfl rfl rfl (cnv_u8_u64 (n := y1) Try.underlying5 Try.underlying26)) ?_
    refine Tops_step rfl (OpT_bin rfl rfl rfl rfl rfl (bin_add_u64 (a := (256 : UInt64) * v1) (b := y1.toUInt64))) ?_
    refine Tops_step rfl (OpT_assign rfl rfl rfl rfl) ?_
    refine Tops_nil ?_
    refine Tk_wkS (fr' := [(0, some (vb1)), (1, some (vI atp1)), (7, some (vU64 (((256 : UInt64) * v1) + y1.toUInt64))), (8, some (vI i1))]) (own' := []) (shr' := [Fact.sl u8S vb1 b]) [0, 1, 7, 8] [] [0] rfl rfl rfl rfl ?_
    refine Tk_blk ?_
    refine Tk_region ?_
    refine Tops_step rfl (OpT_move rfl rfl rfl rfl) ?_
    refine Tops_step rfl (OpT_bin rfl rfl rfl rfl rfl (bin_sub_i (a := i1) (b := (1 : Int)))) ?_
    refine Tops_step rfl (OpT_assign rfl rfl rfl rfl) ?_
    refine Tops_nil ?_
    refine Tk_wkS (fr' := [(0, some (vb1)), (1, some (vI atp1)), (7, some (vU64 (((256 : UInt64) * v1) + y1.toUInt64))), (8, some (vI (wi (i1 - (1 : Int)))))]) (own' := []) (shr' := [Fact.sl u8S vb1 b]) [0, 1, 7, 8] [] [0] rfl rfl rfl rfl ?_
    exact Tk_backS (((256 : UInt64) * v1) + y1.toUInt64, wi (i1 - (1 : Int))) h [0, 1, 7, 8] [] [0] rfl rfl rfl rfl rfl
  · replace h := br_f hg1 h
    refine Tk_condF (congrArg (fun b => some (Value.bool b)) hg1) ?_
    refine Tk_exit _ rfl ?_
    refine Tk_seq ?_
    refine Tk_region ?_
    refine Tops_step rfl (OpT_move rfl rfl rfl rfl) ?_
    refine Tops_step rfl (OpT_assign rfl rfl rfl rfl) ?_
    refine Tops_nil ?_
    refine Tk_wkS (fr' := [(6, some (vU64 v1))]) (own' := []) (shr' := []) [6] [] [] rfl rfl rfl rfl ?_
    obtain rfl := Option.some.inj h
    exact Tk_retV rfl (resA (vs := [vU64 v1]) rfl ⟨rfl, trivial⟩) [] [] rfl rfl rfl ⟨rfl, rfl, rfl⟩

set_option maxRecDepth 100000 in
set_option maxHeartbeats 4000000 in
theorem w_ref_Read03 {b : List UInt8} {vb1 : Value} {r : (Desc × Int)} (h : ref_Read03 b = some r) :
    Ctr Try.prog 25 #[vb1] [] [Fact.sl u8S vb1 b]
      (fun rv own shr => rv = .tuple #[.agg #[vU64 r.1.Addr, vU32 r.1.Len, vU16 r.1.Flags, vU16 r.1.Next], vI r.2] ∧ own = [] ∧ shr = []) := by
  unfold ref_Read03 at h
  refine Ctr.mk (args := [vb1]) Try.func25 rfl rfl (fun R0 w0 B => ?_)
  refine Tk_seq ?_
  refine Tk_region ?_
  refine Tops_ex rfl (OpT_alloc rfl rfl rfl tyZ29) fun b1 => ?_
  refine Tops_step rfl (OpT_assign rfl rfl rfl rfl) ?_
  refine Tops_nil ?_
  refine Tk_wkS (fr' := [(0, some (vb1)), (2, some (.pointer (some ⟨b1, 0, none⟩)))]) (own' := [some (cellsR b1 29 [vU64 (0 : UInt64), vU32 (0 : UInt32), vU16 (0 : UInt16), vU16 (0 : UInt16)])]) (shr' := [Fact.sl u8S vb1 b]) [0, 2] [0] [0] rfl rfl rfl rfl ?_
  refine Tk_seq ?_
  refine Tk_seq ?_
  refine Tk_region ?_
  refine Tops_step rfl (OpT_move rfl rfl rfl rfl) ?_
  refine Tops_step rfl (OpT_lenS rfl rfl rfl rfl Try.underlying34 (i := 0) rfl) ?_
  refine Tops_step rfl (OpT_bin rfl rfl rfl rfl rfl (bin_neq_i (a := len b) (b := (16 : Int)))) ?_
  refine Tops_nil ?_
  refine Tk_wkS (fr' := [(0, some (vb1)), (2, some (.pointer (some ⟨b1, 0, none⟩))), (6, some (vB ((len b) != (16 : Int))))]) (own' := [some (cellsR b1 29 [vU64 (0 : UInt64), vU32 (0 : UInt32), vU16 (0 : UInt16), vU16 (0 : UInt16)])]) (shr' := [Fact.sl u8S vb1 b]) [0, 2, 6] [0] [0] rfl rfl rfl rfl ?_
  rcases Bool.eq_false_or_eq_true ((len b) != (16 : Int)) with hg1 | hg1
  · replace h := br_t hg1 h
    refine Tk_condT (congrArg (fun b => some (Value.bool b)) hg1) ?_
    refine Tk_seq ?_
    refine Tk_region ?_
    refine Tops_step rfl (OpT_build (v := .agg #[vU64 (0 : UInt64), vU32 (0 : UInt32), vU16 (0 : UInt16), vU16 (0 : UInt16)]) rfl rfl rfl rfl (bldV (by kernel_rfl))) ?_
    refine Tops_step rfl (OpT_storeC (cs' := [vU64 (0 : UInt64), vU32 (0 : UInt32), vU16 (0 : UInt16), vU16 (0 : UInt16)]) rfl rfl rfl rfl tyF29 (i := 0) rfl rfl rfl (one_of rfl) rfl) ?_
    refine Tops_step rfl (OpT_assign rfl rfl rfl rfl) ?_
    refine Tops_nil ?_
    refine Tk_wkS (fr' := [(2, some (.pointer (some ⟨b1, 0, none⟩))), (3, some (vI (4 : Int)))]) (own' := [some (cellsR b1 29 [vU64 (0 : UInt64), vU32 (0 : UInt32), vU16 (0 : UInt16), vU16 (0 : UInt16)])]) (shr' := []) [2, 3] [0] [] rfl rfl rfl rfl ?_
    obtain rfl := Option.some.inj h
    exact Tk_retV rfl (resA (vs := [.agg #[vU64 (0 : UInt64), vU32 (0 : UInt32), vU16 (0 : UInt16), vU16 (0 : UInt16)], vI (4 : Int)]) rfl ⟨⟨_, 0, _, _, _, rfl, rfl, .inl ⟨tyF29, rfl, rfl⟩⟩, rfl, trivial⟩) [] [] rfl rfl rfl ⟨rfl, rfl, rfl⟩
  · replace h := br_f hg1 h
    refine Tk_condF (congrArg (fun b => some (Value.bool b)) hg1) ?_
    refine Tk_skip ?_
    refine Tk_seq ?_
    refine Tk_region ?_
    refine Tops_step rfl (OpT_move rfl rfl rfl rfl) ?_
    obtain ⟨get1, hx1, h⟩ := ob_e h
    refine Tops_exP rfl (OpT_call (w_ref_get03 hx1) [] [0] rfl rfl rfl rfl rfl callee40 rfl rfl rfl rfl) ?_
    rintro _ ⟨_, _, _, ⟨rfl, rfl, rfl⟩, rfl⟩
    refine Tops_step rfl (OpT_move rfl rfl rfl rfl) ?_
    obtain ⟨get2, hx2, h⟩ := ob_e h
    refine Tops_exP rfl (OpT_call (w_ref_get03 hx2) [] [0] rfl rfl rfl rfl rfl callee40 rfl rfl rfl rfl) ?_
    rintro _ ⟨_, _, _, ⟨rfl, rfl, rfl⟩, rfl⟩
    refine Tops_step rfl (OpT_cnv rfl rfl rfl rfl (cnv_u64_u32 (n := get2) Try.underlying26 Try.underlying27)) ?_
    refine Tops_step rfl (OpT_move rfl rfl rfl rfl) ?_
    obtain ⟨get3, hx3, h⟩ := ob_e h
    refine Tops_exP rfl (OpT_call (w_ref_get03 hx3) [] [0] rfl rfl rfl rfl rfl callee40 rfl rfl rfl rfl) ?_
    rintro _ ⟨_, _, _, ⟨rfl, rfl, rfl⟩, rfl⟩
    refine Tops_step rfl (OpT_cnv rfl rfl rfl rfl (cnv_u64_u16 (n := get3) Try.underlying26 Try.underlying22)) ?_
    refine Tops_step rfl (OpT_move rfl rfl rfl rfl) ?_
    obtain ⟨get4, hx4, h⟩ := ob_e h
    refine Tops_exP rfl (OpT_call (w_ref_get03 hx4) [] [0] rfl rfl rfl rfl rfl callee40 rfl rfl rfl rfl) ?_
    rintro _ ⟨_, _, _, ⟨rfl, rfl, rfl⟩, rfl⟩
    refine Tops_step rfl (OpT_cnv rfl rfl rfl rfl (cnv_u64_u16 (n := get4) Try.underlying26 Try.underlying22)) ?_
    refine Tops_step rfl (OpT_build (v := .agg #[vU64 get1, vU32 get2.toUInt32, vU16 get3.toUInt16, vU16 get4.toUInt16]) rfl rfl rfl rfl (bldV (by kernel_rfl))) ?_
    refine Tops_step rfl (OpT_storeC (cs' := [vU64 get1, vU32 get2.toUInt32, vU16 get3.toUInt16, vU16 get4.toUInt16]) rfl rfl rfl rfl tyF29 (i := 0) rfl rfl rfl (one_of rfl) rfl) ?_
    refine Tops_step rfl (OpT_assign rfl rfl rfl rfl) ?_
    refine Tops_nil ?_
    refine Tk_wkS (fr' := [(2, some (.pointer (some ⟨b1, 0, none⟩))), (3, some (vI (0 : Int)))]) (own' := [some (cellsR b1 29 [vU64 get1, vU32 get2.toUInt32, vU16 get3.toUInt16, vU16 get4.toUInt16])]) (shr' := []) [2, 3] [0] [] rfl rfl rfl rfl ?_
    obtain rfl := Option.some.inj h
    exact Tk_retV rfl (resA (vs := [.agg #[vU64 get1, vU32 get2.toUInt32, vU16 get3.toUInt16, vU16 get4.toUInt16], vI (0 : Int)]) rfl ⟨⟨_, 0, _, _, _, rfl, rfl, .inl ⟨tyF29, rfl, rfl⟩⟩, rfl, trivial⟩) [] [] rfl rfl rfl ⟨rfl, rfl, rfl⟩

set_option maxRecDepth 100000 in
set_option maxHeartbeats 4000000 in
theorem w_ref_ReadPacked03 {b : List UInt8} {vb1 : Value} {r : (Packed × Int)} (h : ref_ReadPacked03 b = some r) :
    Ctr Try.prog 26 #[vb1] [] [Fact.sl u8S vb1 b]
      (fun rv own shr => rv = .tuple #[.agg #[vU64 r.1.Addr, vU32 r.1.Len, vU16 r.1.ID, vU16 r.1.Flags], vI r.2] ∧ own = [] ∧ shr = []) := by
  unfold ref_ReadPacked03 at h
  refine Ctr.mk (args := [vb1]) Try.func26 rfl rfl (fun R0 w0 B => ?_)
  refine Tk_seq ?_
  refine Tk_region ?_
  refine Tops_ex rfl (OpT_alloc rfl rfl rfl tyZ31) fun b1 => ?_
  refine Tops_step rfl (OpT_assign rfl rfl rfl rfl) ?_
  refine Tops_nil ?_
  refine Tk_wkS (fr' := [(0, some (vb1)), (2, some (.pointer (some ⟨b1, 0, none⟩)))]) (own' := [some (cellsR b1 31 [vU64 (0 : UInt64), vU32 (0 : UInt32), vU16 (0 : UInt16), vU16 (0 : UInt16)])]) (shr' := [Fact.sl u8S vb1 b]) [0, 2] [0] [0] rfl rfl rfl rfl ?_
  refine Tk_seq ?_
  refine Tk_seq ?_
  refine Tk_region ?_
  refine Tops_step rfl (OpT_move rfl rfl rfl rfl) ?_
  refine Tops_step rfl (OpT_lenS rfl rfl rfl rfl Try.underlying34 (i := 0) rfl) ?_
  refine Tops_step rfl (OpT_bin rfl rfl rfl rfl rfl (bin_neq_i (a := len b) (b := (16 : Int)))) ?_
  refine Tops_nil ?_
  refine Tk_wkS (fr' := [(0, some (vb1)), (2, some (.pointer (some ⟨b1, 0, none⟩))), (6, some (vB ((len b) != (16 : Int))))]) (own' := [some (cellsR b1 31 [vU64 (0 : UInt64), vU32 (0 : UInt32), vU16 (0 : UInt16), vU16 (0 : UInt16)])]) (shr' := [Fact.sl u8S vb1 b]) [0, 2, 6] [0] [0] rfl rfl rfl rfl ?_
  rcases Bool.eq_false_or_eq_true ((len b) != (16 : Int)) with hg1 | hg1
  · replace h := br_t hg1 h
    refine Tk_condT (congrArg (fun b => some (Value.bool b)) hg1) ?_
    refine Tk_seq ?_
    refine Tk_region ?_
    refine Tops_step rfl (OpT_build (v := .agg #[vU64 (0 : UInt64), vU32 (0 : UInt32), vU16 (0 : UInt16), vU16 (0 : UInt16)]) rfl rfl rfl rfl (bldV (by kernel_rfl))) ?_
    refine Tops_step rfl (OpT_storeC (cs' := [vU64 (0 : UInt64), vU32 (0 : UInt32), vU16 (0 : UInt16), vU16 (0 : UInt16)]) rfl rfl rfl rfl tyF31 (i := 0) rfl rfl rfl (one_of rfl) rfl) ?_
    refine Tops_step rfl (OpT_assign rfl rfl rfl rfl) ?_
    refine Tops_nil ?_
    refine Tk_wkS (fr' := [(2, some (.pointer (some ⟨b1, 0, none⟩))), (3, some (vI (4 : Int)))]) (own' := [some (cellsR b1 31 [vU64 (0 : UInt64), vU32 (0 : UInt32), vU16 (0 : UInt16), vU16 (0 : UInt16)])]) (shr' := []) [2, 3] [0] [] rfl rfl rfl rfl ?_
    obtain rfl := Option.some.inj h
    exact Tk_retV rfl (resA (vs := [.agg #[vU64 (0 : UInt64), vU32 (0 : UInt32), vU16 (0 : UInt16), vU16 (0 : UInt16)], vI (4 : Int)]) rfl ⟨⟨_, 0, _, _, _, rfl, rfl, .inl ⟨tyF31, rfl, rfl⟩⟩, rfl, trivial⟩) [] [] rfl rfl rfl ⟨rfl, rfl, rfl⟩
  · replace h := br_f hg1 h
    refine Tk_condF (congrArg (fun b => some (Value.bool b)) hg1) ?_
    refine Tk_skip ?_
    refine Tk_seq ?_
    refine Tk_region ?_
    refine Tops_step rfl (OpT_move rfl rfl rfl rfl) ?_
    obtain ⟨get1, hx1, h⟩ := ob_e h
    refine Tops_exP rfl (OpT_call (w_ref_get03 hx1) [] [0] rfl rfl rfl rfl rfl callee40 rfl rfl rfl rfl) ?_
    rintro _ ⟨_, _, _, ⟨rfl, rfl, rfl⟩, rfl⟩
    refine Tops_step rfl (OpT_move rfl rfl rfl rfl) ?_
    obtain ⟨get2, hx2, h⟩ := ob_e h
    refine Tops_exP rfl (OpT_call (w_ref_get03 hx2) [] [0] rfl rfl rfl rfl rfl callee40 rfl rfl rfl rfl) ?_
    rintro _ ⟨_, _, _, ⟨rfl, rfl, rfl⟩, rfl⟩
    refine Tops_step rfl (OpT_cnv rfl rfl rfl rfl (cnv_u64_u32 (n := get2) Try.underlying26 Try.underlying27)) ?_
    refine Tops_step rfl (OpT_move rfl rfl rfl rfl) ?_
    obtain ⟨get3, hx3, h⟩ := ob_e h
    refine Tops_exP rfl (OpT_call (w_ref_get03 hx3) [] [0] rfl rfl rfl rfl rfl callee40 rfl rfl rfl rfl) ?_
    rintro _ ⟨_, _, _, ⟨rfl, rfl, rfl⟩, rfl⟩
    refine Tops_step rfl (OpT_cnv rfl rfl rfl rfl (cnv_u64_u16 (n := get3) Try.underlying26 Try.underlying22)) ?_
    refine Tops_step rfl (OpT_move rfl rfl rfl rfl) ?_
    obtain ⟨get4, hx4, h⟩ := ob_e h
    refine Tops_exP rfl (OpT_call (w_ref_get03 hx4) [] [0] rfl rfl rfl rfl rfl callee40 rfl rfl rfl rfl) ?_
    rintro _ ⟨_, _, _, ⟨rfl, rfl, rfl⟩, rfl⟩
    refine Tops_step rfl (OpT_cnv rfl rfl rfl rfl (cnv_u64_u16 (n := get4) Try.underlying26 Try.underlying22)) ?_
    refine Tops_step rfl (OpT_build (v := .agg #[vU64 get1, vU32 get2.toUInt32, vU16 get3.toUInt16, vU16 get4.toUInt16]) rfl rfl rfl rfl (bldV (by kernel_rfl))) ?_
    refine Tops_step rfl (OpT_storeC (cs' := [vU64 get1, vU32 get2.toUInt32, vU16 get3.toUInt16, vU16 get4.toUInt16]) rfl rfl rfl rfl tyF31 (i := 0) rfl rfl rfl (one_of rfl) rfl) ?_
    refine Tops_step rfl (OpT_assign rfl rfl rfl rfl) ?_
    refine Tops_nil ?_
    refine Tk_wkS (fr' := [(2, some (.pointer (some ⟨b1, 0, none⟩))), (3, some (vI (0 : Int)))]) (own' := [some (cellsR b1 31 [vU64 get1, vU32 get2.toUInt32, vU16 get3.toUInt16, vU16 get4.toUInt16])]) (shr' := []) [2, 3] [0] [] rfl rfl rfl rfl ?_
    obtain rfl := Option.some.inj h
    exact Tk_retV rfl (resA (vs := [.agg #[vU64 get1, vU32 get2.toUInt32, vU16 get3.toUInt16, vU16 get4.toUInt16], vI (0 : Int)]) rfl ⟨⟨_, 0, _, _, _, rfl, rfl, .inl ⟨tyF31, rfl, rfl⟩⟩, rfl, trivial⟩) [] [] rfl rfl rfl ⟨rfl, rfl, rfl⟩

set_option maxRecDepth 100000 in
set_option maxHeartbeats 4000000 in
theorem w_ref_ReadTable03 {b : List UInt8} {vb1 : Value} {r : ((List Desc) × Int)} (h : ref_ReadTable03 b = some r) :
    Ctr Try.prog 27 #[vb1] [] [Fact.sl u8S vb1 b]
      (fun rv own shr => ∃ (w1 : Value), rv = .tuple #[w1, vI r.2] ∧ own = [(rowS DescS w1 r.1)] ∧ shr = []) := by
  unfold ref_ReadTable03 at h
  refine Ctr.mk (args := [vb1]) Try.func27 rfl rfl (fun R0 w0 B => ?_)
  refine Tk_seq ?_
  refine Tk_region ?_
  refine Tops_step rfl (OpT_assign rfl rfl rfl rfl) ?_
  refine Tops_step rfl (OpT_assign rfl rfl rfl rfl) ?_
  refine Tops_nil ?_
  refine Tk_wkS (fr' := [(0, some (vb1))]) (own' := []) (shr' := [Fact.sl u8S vb1 b]) [0] [] [0] rfl rfl rfl rfl ?_
  refine Tk_seq ?_
  refine Tk_seq ?_
  refine Tk_region ?_
  refine Tops_step rfl (OpT_move rfl rfl rfl rfl) ?_
  refine Tops_step rfl (OpT_lenS rfl rfl rfl rfl Try.underlying34 (i := 0) rfl) ?_
  refine Tops_step rfl (OpT_bin rfl rfl rfl rfl rfl (bin_rem_i (a := len b) (b := (16 : Int)) rfl)) ?_
  refine Tops_step rfl (OpT_bin rfl rfl rfl rfl rfl (bin_neq_i (a := remi (len b) (16 : Int)) (b := (0 : Int)))) ?_
  refine Tops_nil ?_
  refine Tk_wkS (fr' := [(0, some (vb1)), (11, some (vB ((remi (len b) (16 : Int)) != (0 : Int))))]) (own' := []) (shr' := [Fact.sl u8S vb1 b]) [0, 11] [] [0] rfl rfl rfl rfl ?_
  rcases Bool.eq_false_or_eq_true ((remi (len b) (16 : Int)) != (0 : Int)) with hg1 | hg1
  · replace h := br_t hg1 h
    refine Tk_condT (congrArg (fun b => some (Value.bool b)) hg1) ?_
    refine Tk_seq ?_
    refine Tk_region ?_
    refine Tops_step rfl (OpT_assign rfl rfl rfl rfl) ?_
    refine Tops_step rfl (OpT_assign rfl rfl rfl rfl) ?_
    refine Tops_nil ?_
    refine Tk_wkS (fr' := [(2, some (.slice none 0 0)), (3, some (vI (4 : Int)))]) (own' := []) (shr' := []) [2, 3] [] [] rfl rfl rfl rfl ?_
    refine Tk_nilrow DescS ?_
    obtain rfl := Option.some.inj h
    exact Tk_retV rfl (resA (vs := [.slice none 0 0, vI (4 : Int)]) rfl ⟨rfl, rfl, trivial⟩) [0] [] rfl rfl rfl ⟨(.slice none 0 0), rfl, rfl, rfl⟩
  · replace h := br_f hg1 h
    refine Tk_condF (congrArg (fun b => some (Value.bool b)) hg1) ?_
    refine Tk_skip ?_
    refine Tk_seq ?_
    refine Tk_region ?_
    refine Tops_step rfl (OpT_assign rfl rfl rfl rfl) ?_
    refine Tops_nil ?_
    refine Tk_wkS (fr' := [(0, some (vb1)), (4, some (.slice none 0 0))]) (own' := []) (shr' := [Fact.sl u8S vb1 b]) [0, 4] [] [0] rfl rfl rfl rfl ?_
    refine Tk_seq ?_
    refine Tk_seq ?_
    refine Tk_region ?_
    refine Tops_step rfl (OpT_assign rfl rfl rfl rfl) ?_
    refine Tops_nil ?_
    refine Tk_block ?_
    refine Tk_nilrow DescS ?_
    refine Tk_loopS (σ := (List Desc) × Int × Value) [0, 4, 5] [0] [0] (fun s => ⟨[(0, some (vb1)), (4, some (s.2.2)), (5, some (vI s.2.1))], [some (rowS DescS s.2.2 s.1)], [Fact.sl u8S vb1 b]⟩) (fun nf s => ref_ReadTable03L1 b nf s.1 s.2.1 = some r) fuel ([], (0 : Int), (.slice none 0 0)) h rfl rfl rfl rfl rfl (fun s h => by cases h) ?_
    rintro nf ⟨out1, i1, v1⟩ h
    replace h : ref_ReadTable03L1B b (ref_ReadTable03L1 b nf) out1 i1 = some r := h
    unfold ref_ReadTable03L1B at h
    refine Tk_seq ?_
    refine Tk_seq ?_
    refine Tk_region ?_
    refine Tops_step rfl (OpT_move rfl rfl rfl rfl) ?_
    refine Tops_step rfl (OpT_move rfl rfl rfl rfl) ?_
    refine Tops_step rfl (OpT_lenS rfl rfl rfl rfl Try.underlying34 (i := 0) rfl) ?_
    refine Tops_step rfl (OpT_bin rfl rfl rfl rfl rfl (bin_lss_i (a := i1) (b := len b))) ?_
    refine Tops_nil ?_
    refine Tk_wkS (fr' := [(0, some (vb1)), (4, some (v1)), (5, some (vI i1)), (15, some (vB (decide (i1 < (len b)))))]) (own' := [some (rowS DescS v1 out1)]) (shr' := [Fact.sl u8S vb1 b]) [0, 4, 5, 15] [0] [0] rfl rfl rfl rfl ?_
    rcases Bool.eq_false_or_eq_true (decide (i1 < (len b))) with hg2 | hg2
    · replace h := br_t hg2 h
      refine Tk_condT (congrArg (fun b => some (Value.bool b)) hg2) ?_
      refine Tk_skip ?_
      refine Tk_seq ?_
      refine Tk_block ?_
      refine Tk_seq ?_
      refine Tk_region ?_
      refine Tops_step rfl (OpT_move rfl rfl rfl rfl) ?_
      refine Tops_step rfl (OpT_move rfl rfl rfl rfl) ?_
      refine Tops_step rfl (OpT_move rfl rfl rfl rfl) ?_
      refine Tops_step rfl (OpT_bin rfl rfl rfl rfl rfl (bin_add_i (a := i1) (b := (16 : Int)))) ?_
      obtain ⟨hc1, h⟩ := chk_e h
      refine Tops_ex rfl (OpT_sliceLH (l := i1) (m := wi (i1 + (16 : Int))) rfl rfl rfl rfl rfl rfl slF34 (i := 0) rfl hc1) fun v2 => ?_
      obtain ⟨read1, hx1, h⟩ := ob_e h
      refine Tops_exP rfl (OpT_call (w_ref_Read03 hx1) [] [1] rfl rfl rfl rfl rfl callee25 rfl rfl rfl rfl) ?_
      rintro _ ⟨_, _, _, ⟨rfl, rfl, rfl⟩, rfl⟩
      refine Tops_step rfl (OpT_move rfl rfl rfl rfl) ?_
      refine Tops_step rfl (OpT_extract rfl rfl rfl rfl rfl) ?_
      refine Tops_step rfl (OpT_extract rfl rfl rfl rfl rfl) ?_
      refine Tops_ex rfl (OpT_alloc rfl rfl rfl tyZ29) fun b1 => ?_
      refine Tops_step rfl (OpT_storeC (cs' := [vU64 read1.1.Addr, vU32 read1.1.Len, vU16 read1.1.Flags, vU16 read1.1.Next]) rfl rfl rfl rfl tyF29 (i := 1) rfl rfl rfl (one_of rfl) rfl) ?_
      refine Tops_step rfl (OpT_assign rfl rfl rfl rfl) ?_
      refine Tops_nil ?_
      refine Tk_wkS (fr' := [(0, some (vb1)), (4, some (v1)), (5, some (vI i1)), (6, some (.pointer (some ⟨b1, 0, none⟩)))]) (own' := [some (rowS DescS v1 out1), some (cellsR b1 29 [vU64 read1.1.Addr, vU32 read1.1.Len, vU16 read1.1.Flags, vU16 read1.1.Next])]) (shr' := [Fact.sl u8S vb1 b]) [0, 4, 5, 6] [0, 1] [0] rfl rfl rfl rfl ?_
      refine Tk_region ?_
      refine Tops_step rfl (OpT_move rfl rfl rfl rfl) ?_
      refine Tops_step rfl (OpT_loadCA (vs := [vU64 read1.1.Addr, vU32 read1.1.Len, vU16 read1.1.Flags, vU16 read1.1.Next]) rfl rfl rfl rfl tyF29 (i := 1) rfl rfl rfl) ?_
      refine Tops_ex rfl (OpT_buildSlice (S := DescS) (xs := [read1.1]) (css := [[vU64 read1.1.Addr, vU32 read1.1.Len, vU16 read1.1.Flags, vU16 read1.1.Next]]) (cs := [vU64 read1.1.Addr, vU32 read1.1.Len, vU16 read1.1.Flags, vU16 read1.1.Next]) (e := 29) rfl rfl rfl rfl (bldF slF32 (by decide) (by kernel_rfl)) rfl rfl rfl rfl (rel_plainD (S := DescS) (xs := [read1.1]) (css := [[vU64 read1.1.Addr, vU32 read1.1.Len, vU16 read1.1.Flags, vU16 read1.1.Next]]) rfl rfl)) fun v3 => ?_
      refine Tops_retire (i := 2) rfl ?_
      obtain ⟨hc2, h⟩ := chk_e h
      refine Tops_ex rfl (OpT_append rfl rfl rfl rfl rfl slF32 (i := 0) (j := 1) rfl rfl hc2) fun v4 => ?_
      refine Tops_step rfl (OpT_assign rfl rfl rfl rfl) ?_
      refine Tops_nil ?_
      refine Tk_wkS (fr' := [(0, some (vb1)), (4, some (v4)), (5, some (vI i1))]) (own' := [some (rowS DescS v4 (out1 ++ [read1.1]))]) (shr' := [Fact.sl u8S vb1 b]) [0, 4, 5] [0] [0] rfl rfl rfl rfl ?_
      refine Tk_blk ?_
      refine Tk_region ?_
      refine Tops_step rfl (OpT_move rfl rfl rfl rfl) ?_
      refine Tops_step rfl (OpT_bin rfl rfl rfl rfl rfl (bin_add_i (a := i1) (b := (16 : Int)))) ?_
      refine Tops_step rfl (OpT_assign rfl rfl rfl rfl) ?_
      refine Tops_nil ?_
      refine Tk_wkS (fr' := [(0, some (vb1)), (4, some (v4)), (5, some (vI (wi (i1 + (16 : Int)))))]) (own' := [some (rowS DescS v4 (out1 ++ [read1.1]))]) (shr' := [Fact.sl u8S vb1 b]) [0, 4, 5] [0] [0] rfl rfl rfl rfl ?_
      exact Tk_backS (out1 ++ [read1.1], wi (i1 + (16 : Int)), v4) h [0, 4, 5] [0] [0] rfl rfl rfl rfl rfl
    · replace h := br_f hg2 h
      refine Tk_condF (congrArg (fun b => some (Value.bool b)) hg2) ?_
      refine Tk_exit _ rfl ?_
      refine Tk_seq ?_
      refine Tk_region ?_
      refine Tops_step rfl (OpT_move rfl rfl rfl rfl) ?_
      refine Tops_step rfl (OpT_assign rfl rfl rfl rfl) ?_
      refine Tops_step rfl (OpT_assign rfl rfl rfl rfl) ?_
      refine Tops_nil ?_
      refine Tk_wkS (fr' := [(2, some (v1)), (3, some (vI (0 : Int)))]) (own' := [some (rowS DescS v1 out1)]) (shr' := []) [2, 3] [0] [] rfl rfl rfl rfl ?_
      obtain rfl := Option.some.inj h
      exact Tk_retV rfl (resA (vs := [v1, vI (0 : Int)]) rfl ⟨rfl, rfl, trivial⟩) [0] [] rfl rfl rfl ⟨v1, rfl, rfl, rfl⟩

set_option maxRecDepth 100000 in
set_option maxHeartbeats 4000000 in
theorem w_ref_put03 {b : List UInt8} {vp1 : UInt64} {np2 : Int} {v_b : Value} {r : (List UInt8)} (h : ref_put03 b vp1 np2 = some r) :
    Ctr Try.prog 41 #[v_b, vU64 vp1, vI np2] [(rowS u8S v_b b)] []
      (fun rv own shr => ∃ (w1 : Value), rv = w1 ∧ own = [(rowS u8S w1 r)] ∧ shr = []) := by
  unfold ref_put03 at h
  refine Ctr.mk (args := [v_b, vU64 vp1, vI np2]) Try.func41 rfl rfl (fun R0 w0 B => ?_)
  refine Tk_seq ?_
  refine Tk_region ?_
  refine Tops_step rfl (OpT_assign rfl rfl rfl rfl) ?_
  refine Tops_nil ?_
  refine Tk_wkS (fr' := [(0, some (v_b)), (1, some (vU64 vp1)), (2, some (vI np2))]) (own' := [some (rowS u8S v_b b)]) (shr' := []) [0, 1, 2] [0] [] rfl rfl rfl rfl ?_
  refine Tk_seq ?_
  refine Tk_seq ?_
  refine Tk_region ?_
  refine Tops_step rfl (OpT_assign rfl rfl rfl rfl) ?_
  refine Tops_nil ?_
  refine Tk_block ?_
  refine Tk_loopS (σ := (List UInt8) × Int × Value) [0, 1, 2, 7] [0] [] (fun s => ⟨[(0, some (s.2.2)), (1, some (vU64 vp1)), (2, some (vI np2)), (7, some (vI s.2.1))], [some (rowS u8S s.2.2 s.1)], []⟩) (fun nf s => ref_put03L1 vp1 np2 nf s.1 s.2.1 = some r) fuel (b, (0 : Int), v_b) h rfl rfl rfl rfl rfl (fun s h => by cases h) ?_
  rintro nf ⟨b1, i1, v1⟩ h
  replace h : ref_put03L1B vp1 np2 (ref_put03L1 vp1 np2 nf) b1 i1 = some r := h
  unfold ref_put03L1B at h
  refine Tk_seq ?_
  refine Tk_seq ?_
  refine Tk_region ?_
  refine Tops_step rfl (OpT_move rfl rfl rfl rfl) ?_
  refine Tops_step rfl (OpT_move rfl rfl rfl rfl) ?_
  refine Tops_step rfl (OpT_bin rfl rfl rfl rfl rfl (bin_lss_i (a := i1) (b := np2))) ?_
  refine Tops_nil ?_
  refine Tk_wkS (fr' := [(0, some (v1)), (1, some (vU64 vp1)), (2, some (vI np2)), (7, some (vI i1)), (10, some (vB (decide (i1 < np2))))]) (own' := [some (rowS u8S v1 b1)]) (shr' := []) [0, 1, 2, 7, 10] [0] [] rfl rfl rfl rfl ?_
  rcases Bool.eq_false_or_eq_true (decide (i1 < np2)) with hg1 | hg1
  · replace h := br_t hg1 h
    refine Tk_condT (congrArg (fun b => some (Value.bool b)) hg1) ?_
    refine Tk_skip ?_
    refine Tk_seq ?_
    refine Tk_block ?_
    refine Tk_region ?_
    refine Tops_step rfl (OpT_move rfl rfl rfl rfl) ?_
    refine Tops_step rfl (OpT_move rfl rfl rfl rfl) ?_
    refine Tops_step rfl (OpT_move rfl rfl rfl rfl) ?_
    refine Tops_step rfl (OpT_bin rfl rfl rfl rfl rfl (bin_mul_i (a := (8 : Int)) (b := i1))) ?_
    refine Tops_step rfl (OpT_cnv rfl rfl rfl rfl (cnv_i_u64 (n := wi ((8 : Int) * i1)) Try.underlying3 Try.underlying42)) ?_
    refine Tops_step rfl (OpT_bin rfl rfl rfl rfl rfl (bin_shr_u64_u64 (a := vp1) (n := u64 (wi ((8 : Int) * i1))))) ?_
    refine Tops_step rfl (OpT_cnv rfl rfl rfl rfl (cnv_u64_u8 (n := shr64 vp1 ((u64 (wi ((8 : Int) * i1))).toNat)) Try.underlying26 Try.underlying5)) ?_
    refine Tops_ex rfl (OpT_buildSlice (S := u8S) (xs := [(shr64 vp1 ((u64 (wi ((8 : Int) * i1))).toNat)).toUInt8]) (css := [[vU8 ((shr64 vp1 ((u64 (wi ((8 : Int) * i1))).toNat)).toUInt8)]]) (cs := [vU8 ((shr64 vp1 ((u64 (wi ((8 : Int) * i1))).toNat)).toUInt8)]) (e := 5) rfl rfl rfl rfl (bldF slF34 (by decide) (by kernel_rfl)) rfl rfl rfl rfl (rel_plainD (S := u8S) (xs := [(shr64 vp1 ((u64 (wi ((8 : Int) * i1))).toNat)).toUInt8]) (css := [[vU8 ((shr64 vp1 ((u64 (wi ((8 : Int) * i1))).toNat)).toUInt8)]]) rfl rfl)) fun v2 => ?_
    refine Tops_retire (i := 1) rfl ?_
    obtain ⟨hc1, h⟩ := chk_e h
    refine Tops_ex rfl (OpT_append rfl rfl rfl rfl rfl slF34 (i := 0) (j := 0) rfl rfl hc1) fun v3 => ?_
    refine Tops_step rfl (OpT_assign rfl rfl rfl rfl) ?_
    refine Tops_nil ?_
    refine Tk_wkS (fr' := [(0, some (v3)), (1, some (vU64 vp1)), (2, some (vI np2)), (7, some (vI i1))]) (own' := [some (rowS u8S v3 (b1 ++ [(shr64 vp1 ((u64 (wi ((8 : Int) * i1))).toNat)).toUInt8]))]) (shr' := []) [0, 1, 2, 7] [0] [] rfl rfl rfl rfl ?_
    refine Tk_blk ?_
    refine Tk_region ?_
    refine Tops_step rfl (OpT_move rfl rfl rfl rfl) ?_
    refine Tops_step rfl (OpT_bin rfl rfl rfl rfl rfl (bin_add_i (a := i1) (b := (1 : Int)))) ?_
    refine Tops_step rfl (OpT_assign rfl rfl rfl rfl) ?_
    refine Tops_nil ?_
    refine Tk_wkS (fr' := [(0, some (v3)), (1, some (vU64 vp1)), (2, some (vI np2)), (7, some (vI (wi (i1 + (1 : Int)))))]) (own' := [some (rowS u8S v3 (b1 ++ [(shr64 vp1 ((u64 (wi ((8 : Int) * i1))).toNat)).toUInt8]))]) (shr' := []) [0, 1, 2, 7] [0] [] rfl rfl rfl rfl ?_
    exact Tk_backS (b1 ++ [(shr64 vp1 ((u64 (wi ((8 : Int) * i1))).toNat)).toUInt8], wi (i1 + (1 : Int)), v3) h [0, 1, 2, 7] [0] [] rfl rfl rfl rfl rfl
  · replace h := br_f hg1 h
    refine Tk_condF (congrArg (fun b => some (Value.bool b)) hg1) ?_
    refine Tk_exit _ rfl ?_
    refine Tk_seq ?_
    refine Tk_region ?_
    refine Tops_step rfl (OpT_move rfl rfl rfl rfl) ?_
    refine Tops_step rfl (OpT_assign rfl rfl rfl rfl) ?_
    refine Tops_nil ?_
    refine Tk_wkS (fr' := [(6, some (v1))]) (own' := [some (rowS u8S v1 b1)]) (shr' := []) [6] [0] [] rfl rfl rfl rfl ?_
    obtain rfl := Option.some.inj h
    exact Tk_retV rfl (resA (vs := [v1]) rfl ⟨rfl, trivial⟩) [0] [] rfl rfl rfl ⟨v1, rfl, rfl, rfl⟩

set_option maxRecDepth 100000 in
set_option maxHeartbeats 4000000 in
theorem w_ref_Bytes03 {dp0 : Desc} {r : (List UInt8)} (h : ref_Bytes03 dp0 = some r) :
    Ctr Try.prog 30 #[.agg #[vU64 dp0.Addr, vU32 dp0.Len, vU16 dp0.Flags, vU16 dp0.Next]] [] []
      (fun rv own shr => ∃ (w1 : Value), rv = w1 ∧ own = [(rowS u8S w1 r)] ∧ shr = []) := by
  unfold ref_Bytes03 at h
  refine Ctr.mk (args := [.agg #[vU64 dp0.Addr, vU32 dp0.Len, vU16 dp0.Flags, vU16 dp0.Next]]) Try.func30 rfl rfl (fun R0 w0 B => ?_)
  refine Tk_seq ?_
  refine Tk_region ?_
  refine Tops_ex rfl (OpT_box rfl rfl rfl rfl) fun b1 => ?_
  refine Tops_step rfl (OpT_assign rfl rfl rfl rfl) ?_
  refine Tops_nil ?_
  refine Tk_wkS (fr' := [(1, some (.pointer (some ⟨b1, 0, none⟩)))]) (own' := [some (cellsR b1 29 [vU64 dp0.Addr, vU32 dp0.Len, vU16 dp0.Flags, vU16 dp0.Next])]) (shr' := []) [1] [0] [] rfl rfl rfl rfl ?_
  refine Tk_seq ?_
  refine Tk_drawT (by kernel_rfl) ?_
  refine TA_tb [0, 1, 3, 0, 8, 24, 63, 0, 128, 384, 1023, 0, 2048, 6144, 16383, 32767] (by kernel_rfl) fun htb => ?_
  refine TA_nilrow u8S ?_
  obtain ⟨put1, hx1, h⟩ := ob_e h
  obtain ⟨put2, hx2, h⟩ := ob_e h
  obtain ⟨put3, hx3, h⟩ := ob_e h
  refine TA_seg (lo := 0) (hi := 14) htb rfl rfl (by kernel_rfl) (fun c L a w => ∃ (v1 : Value), ∃ (v2 : Value), ∃ (v3 : Value), Sat c ⟨[(1, some (.pointer (some ⟨b1, 0, none⟩))), (3, bif L 0 then some (.pointer (some ⟨b1, 0, none⟩)) else none), (4, bif L 1 then some (vU64 dp0.Addr) else none), (5, bif L 2 then some (v1) else none), (6, bif L 3 then some (.pointer (some ⟨b1, 1, none⟩)) else none), (7, bif L 4 then some (vU32 dp0.Len) else none), (8, bif L 5 then some (vU64 dp0.Len.toUInt64) else none), (9, bif L 6 then some (v2) else none), (10, bif L 7 then some (.pointer (some ⟨b1, 2, none⟩)) else none), (11, bif L 8 then some (vU16 dp0.Flags) else none), (12, bif L 9 then some (vU64 dp0.Flags.toUInt64) else none), (13, bif L 10 then some (v3) else none), (14, bif L 11 then some (.pointer (some ⟨b1, 3, none⟩)) else none), (15, bif L 12 then some (vU16 dp0.Next) else none), (16, bif L 13 then some (vU64 dp0.Next.toUInt64) else none)], [(some (cellsR b1 29 [vU64 dp0.Addr, vU32 dp0.Len, vU16 dp0.Flags, vU16 dp0.Next]) : Option Res), (bif L 2 then none else some (rowS u8S (.slice none 0 0) ([] : List UInt8)) : Option Res), (bif L 6 then none else bif L 2 then some (rowS u8S v1 put1) else none : Option Res), (bif L 10 then none else bif L 6 then some (rowS u8S v2 put2) else none : Option Res), (bif L 10 then some (rowS u8S v3 put3) else none : Option Res)], []⟩ a w) [([], [1, 2, 6, 10]), ([0], [2, 6, 10]), ([0, 1], [6, 10]), ([], [4, 5, 6, 10]), ([3], [5, 6, 10]), ([3, 4], [6, 10]), ([0, 1, 2, 3, 4, 5], [10]), ([], [8, 9, 10]), ([7], [9, 10]), ([7, 8], [10]), ([0, 1, 2, 3, 4, 5, 6, 7, 8, 9], []), ([], [12, 13]), ([11], [13]), ([11, 12], [])] rfl (by kernel_rfl) ?_ (steps_cons ?_ (steps_cons ?_ (steps_cons ?_ (steps_cons ?_ (steps_cons ?_ (steps_cons ?_ (steps_cons ?_ (steps_cons ?_ (steps_cons ?_ (steps_cons ?_ (steps_cons ?_ (steps_cons ?_ (steps_cons ?_ (steps_cons ?_ (steps_nil))))))))))))))) ?_
  · intro a w hs
    exact ⟨undef, undef, undef, hs.startF [3, 4, 5, 6, 7, 8, 9, 10, 11, 12, 13, 14, 15, 16] [0, 1, 2, 3, 4] [] rfl rfl rfl rfl⟩
  · intro L a w hv K Q hK
    obtain ⟨v1, v2, v3, hs⟩ := hv
    refine wpOp_go rfl rfl hs (OpT_fieldC rfl rfl rfl rfl fldF29x0) ?_
    rintro _ rfl a' w' hs'
    exact hK a' w' ⟨v1, v2, v3, hs'.putF (i := 1) rfl [0, 1, 2, 3, 4] [] rfl rfl rfl rfl⟩
  · intro L a w hv K Q hK
    obtain ⟨v1, v2, v3, hs⟩ := hv
    refine wpOp_go rfl rfl hs (OpT_loadC rfl rfl rfl rfl tyF26 (i := 0) rfl rfl) ?_
    rintro _ rfl a' w' hs'
    exact hK a' w' ⟨v1, v2, v3, hs'.putF (i := 2) rfl [0, 1, 2, 3, 4] [] rfl rfl rfl rfl⟩
  · intro L a w hv K Q hK
    obtain ⟨v1, v2, v3, hs⟩ := hv
    refine wpOp_go rfl rfl hs (OpT_call (w_ref_put03 hx1) [1] [] rfl rfl rfl rfl rfl callee41 rfl rfl rfl rfl) ?_
    rintro _ ⟨v1', _, _, ⟨_, rfl, rfl, rfl⟩, rfl⟩ a' w' hs'
    exact hK a' w' ⟨v1', v2, v3, hs'.putF (i := 3) rfl [0, 1, 5, 3, 4] [] rfl rfl rfl rfl⟩
  · intro L a w hv K Q hK
    obtain ⟨v1, v2, v3, hs⟩ := hv
    refine wpOp_go rfl rfl hs (OpT_fieldC rfl rfl rfl rfl fldF29x1) ?_
    rintro _ rfl a' w' hs'
    exact hK a' w' ⟨v1, v2, v3, hs'.putF (i := 4) rfl [0, 1, 2, 3, 4] [] rfl rfl rfl rfl⟩
  · intro L a w hv K Q hK
    obtain ⟨v1, v2, v3, hs⟩ := hv
    refine wpOp_go rfl rfl hs (OpT_loadC rfl rfl rfl rfl tyF27 (i := 0) rfl rfl) ?_
    rintro _ rfl a' w' hs'
    exact hK a' w' ⟨v1, v2, v3, hs'.putF (i := 5) rfl [0, 1, 2, 3, 4] [] rfl rfl rfl rfl⟩
  · intro L a w hv K Q hK
    obtain ⟨v1, v2, v3, hs⟩ := hv
    refine wpOp_go rfl rfl hs (OpT_cnv rfl rfl rfl rfl (cnv_u32_u64 (n := dp0.Len) Try.underlying27 Try.underlying26)) ?_
    rintro _ rfl a' w' hs'
    exact hK a' w' ⟨v1, v2, v3, hs'.putF (i := 6) rfl [0, 1, 2, 3, 4] [] rfl rfl rfl rfl⟩
  · intro L a w hv K Q hK
    obtain ⟨v1, v2, v3, hs⟩ := hv
    refine wpOp_go rfl rfl hs (OpT_call (w_ref_put03 hx2) [2] [] rfl rfl rfl rfl rfl callee41 rfl rfl rfl rfl) ?_
    rintro _ ⟨v2', _, _, ⟨_, rfl, rfl, rfl⟩, rfl⟩ a' w' hs'
    exact hK a' w' ⟨v1, v2', v3, hs'.putF (i := 7) rfl [0, 1, 2, 5, 4] [] rfl rfl rfl rfl⟩
  · intro L a w hv K Q hK
    obtain ⟨v1, v2, v3, hs⟩ := hv
    refine wpOp_go rfl rfl hs (OpT_fieldC rfl rfl rfl rfl fldF29x2) ?_
    rintro _ rfl a' w' hs'
    exact hK a' w' ⟨v1, v2, v3, hs'.putF (i := 8) rfl [0, 1, 2, 3, 4] [] rfl rfl rfl rfl⟩
  · intro L a w hv K Q hK
    obtain ⟨v1, v2, v3, hs⟩ := hv
    refine wpOp_go rfl rfl hs (OpT_loadC rfl rfl rfl rfl tyF22 (i := 0) rfl rfl) ?_
    rintro _ rfl a' w' hs'
    exact hK a' w' ⟨v1, v2, v3, hs'.putF (i := 9) rfl [0, 1, 2, 3, 4] [] rfl rfl rfl rfl⟩
  · intro L a w hv K Q hK
    obtain ⟨v1, v2, v3, hs⟩ := hv
    refine wpOp_go rfl rfl hs (OpT_cnv rfl rfl rfl rfl (cnv_u16_u64 (n := dp0.Flags) Try.underlying22 Try.underlying26)) ?_
    rintro _ rfl a' w' hs'
    exact hK a' w' ⟨v1, v2, v3, hs'.putF (i := 10) rfl [0, 1, 2, 3, 4] [] rfl rfl rfl rfl⟩
  · intro L a w hv K Q hK
    obtain ⟨v1, v2, v3, hs⟩ := hv
    refine wpOp_go rfl rfl hs (OpT_call (w_ref_put03 hx3) [3] [] rfl rfl rfl rfl rfl callee41 rfl rfl rfl rfl) ?_
    rintro _ ⟨v3', _, _, ⟨_, rfl, rfl, rfl⟩, rfl⟩ a' w' hs'
    exact hK a' w' ⟨v1, v2, v3', hs'.putF (i := 11) rfl [0, 1, 2, 3, 5] [] rfl rfl rfl rfl⟩
  · intro L a w hv K Q hK
    obtain ⟨v1, v2, v3, hs⟩ := hv
    refine wpOp_go rfl rfl hs (OpT_fieldC rfl rfl rfl rfl fldF29x3) ?_
    rintro _ rfl a' w' hs'
    exact hK a' w' ⟨v1, v2, v3, hs'.putF (i := 12) rfl [0, 1, 2, 3, 4] [] rfl rfl rfl rfl⟩
  · intro L a w hv K Q hK
    obtain ⟨v1, v2, v3, hs⟩ := hv
    refine wpOp_go rfl rfl hs (OpT_loadC rfl rfl rfl rfl tyF22 (i := 0) rfl rfl) ?_
    rintro _ rfl a' w' hs'
    exact hK a' w' ⟨v1, v2, v3, hs'.putF (i := 13) rfl [0, 1, 2, 3, 4] [] rfl rfl rfl rfl⟩
  · intro L a w hv K Q hK
    obtain ⟨v1, v2, v3, hs⟩ := hv
    refine wpOp_go rfl rfl hs (OpT_cnv rfl rfl rfl rfl (cnv_u16_u64 (n := dp0.Next) Try.underlying22 Try.underlying26)) ?_
    rintro _ rfl a' w' hs'
    exact hK a' w' ⟨v1, v2, v3, hs'.putF (i := 14) rfl [0, 1, 2, 3, 4] [] rfl rfl rfl rfl⟩
  · intro L a w hL hv
    rw [allTrue hL] at hv
    obtain ⟨v1, v2, v3, hs⟩ := hv
    refine (show TA _ _ _ 14 ⟨[(13, some (v3)), (16, some (vU64 dp0.Next.toUInt64))], [some (rowS u8S v3 put3)], []⟩ from ?_) a w (hs.wkS [13, 16] [4] [] rfl rfl rfl rfl)
    clear hs hL
    obtain ⟨put4, hx4, h⟩ := ob_e h
    refine TA_exP htb (by kernel_rfl) rfl rfl (OpT_call (w_ref_put03 hx4) [0] [] rfl rfl rfl rfl rfl callee41 rfl rfl rfl rfl) ?_
    rintro _ ⟨v4, _, _, ⟨_, rfl, rfl, rfl⟩, rfl⟩
    refine TA_step htb (by kernel_rfl) rfl rfl (OpT_assign rfl rfl rfl rfl) ?_
    refine TA_end rfl ?_
    refine Tk_wkS (fr' := [(2, some (v4))]) (own' := [some (rowS u8S v4 put4)]) (shr' := []) [2] [1] [] rfl rfl rfl rfl ?_
    obtain rfl := Option.some.inj h
    exact Tk_retV rfl (resA (vs := [v4]) rfl ⟨rfl, trivial⟩) [0] [] rfl rfl rfl ⟨v4, rfl, rfl, rfl⟩

set_option maxRecDepth 100000 in
set_option maxHeartbeats 4000000 in
theorem w_ref_Table03 {l : List Desc} {vl1 : Value} {r : (List UInt8)} (h : ref_Table03 l = some r) :
    Ctr Try.prog 34 #[vl1] [] [Fact.sl DescS vl1 l]
      (fun rv own shr => ∃ (w1 : Value), rv = w1 ∧ own = [(rowS u8S w1 r)] ∧ shr = []) := by
  unfold ref_Table03 at h
  refine Ctr.mk (args := [vl1]) Try.func34 rfl rfl (fun R0 w0 B => ?_)
  refine Tk_seq ?_
  refine Tk_region ?_
  refine Tops_step rfl (OpT_assign rfl rfl rfl rfl) ?_
  refine Tops_nil ?_
  refine Tk_wkS (fr' := [(0, some (vl1))]) (own' := []) (shr' := [Fact.sl DescS vl1 l]) [0] [] [0] rfl rfl rfl rfl ?_
  refine Tk_seq ?_
  refine Tk_region ?_
  refine Tops_step rfl (OpT_assign rfl rfl rfl rfl) ?_
  refine Tops_nil ?_
  refine Tk_seq ?_
  refine Tk_seq ?_
  refine Tk_region ?_
  refine Tops_step rfl (OpT_assign rfl rfl rfl rfl) ?_
  refine Tops_nil ?_
  refine Tk_block ?_
  refine Tk_nilrow u8S ?_
  refine Tk_loopS (σ := (List UInt8) × Int × Value) [0, 3, 4] [0] [0] (fun s => ⟨[(0, some (vl1)), (3, some (s.2.2)), (4, some (vI s.2.1))], [some (rowS u8S s.2.2 s.1)], [Fact.sl DescS vl1 l]⟩) (fun nf s => ref_Table03L1 l nf s.1 s.2.1 = some r) fuel ([], (0 : Int), (.slice none 0 0)) h rfl rfl rfl rfl rfl (fun s h => by cases h) ?_
  rintro nf ⟨out1, i1, v1⟩ h
  replace h : ref_Table03L1B l (ref_Table03L1 l nf) out1 i1 = some r := h
  unfold ref_Table03L1B at h
  refine Tk_seq ?_
  refine Tk_seq ?_
  refine Tk_region ?_
  refine Tops_step rfl (OpT_move rfl rfl rfl rfl) ?_
  refine Tops_step rfl (OpT_move rfl rfl rfl rfl) ?_
  refine Tops_step rfl (OpT_lenS rfl rfl rfl rfl Try.underlying32 (i := 0) rfl) ?_
  refine Tops_step rfl (OpT_bin rfl rfl rfl rfl rfl (bin_lss_i (a := i1) (b := len l))) ?_
  refine Tops_nil ?_
  refine Tk_wkS (fr' := [(0, some (vl1)), (3, some (v1)), (4, some (vI i1)), (8, some (vB (decide (i1 < (len l)))))]) (own' := [some (rowS u8S v1 out1)]) (shr' := [Fact.sl DescS vl1 l]) [0, 3, 4, 8] [0] [0] rfl rfl rfl rfl ?_
  rcases Bool.eq_false_or_eq_true (decide (i1 < (len l))) with hg1 | hg1
  · replace h := br_t hg1 h
    refine Tk_condT (congrArg (fun b => some (Value.bool b)) hg1) ?_
    refine Tk_skip ?_
    refine Tk_seq ?_
    refine Tk_block ?_
    refine Tk_region ?_
    refine Tops_step rfl (OpT_move rfl rfl rfl rfl) ?_
    refine Tops_step rfl (OpT_move rfl rfl rfl rfl) ?_
    refine Tops_step rfl (OpT_move rfl rfl rfl rfl) ?_
    obtain ⟨d1, hx1, h⟩ := ob_e h
    refine Tops_ex rfl (OpT_idxS rfl rfl rfl rfl rfl slF32 (i := 0) rfl hx1) fun p1 => ?_
    refine Tops_step rfl (OpT_loadPA (vs := [vU64 d1.Addr, vU32 d1.Len, vU16 d1.Flags, vU16 d1.Next]) rfl rfl rfl rfl tyF29 (i := 1) rfl rfl) ?_
    obtain ⟨bytes1, hx2, h⟩ := ob_e h
    refine Tops_exP rfl (OpT_call (w_ref_Bytes03 hx2) [] [] rfl rfl rfl rfl rfl callee30 rfl rfl rfl rfl) ?_
    rintro _ ⟨v2, _, _, ⟨_, rfl, rfl, rfl⟩, rfl⟩
    refine Tops_retire (i := 1) rfl ?_
    obtain ⟨hc1, h⟩ := chk_e h
    refine Tops_ex rfl (OpT_append rfl rfl rfl rfl rfl slF34 (i := 0) (j := 2) rfl rfl hc1) fun v3 => ?_
    refine Tops_step rfl (OpT_assign rfl rfl rfl rfl) ?_
    refine Tops_nil ?_
    refine Tk_wkS (fr' := [(0, some (vl1)), (3, some (v3)), (4, some (vI i1))]) (own' := [some (rowS u8S v3 (out1 ++ bytes1))]) (shr' := [Fact.sl DescS vl1 l]) [0, 3, 4] [0] [0] rfl rfl rfl rfl ?_
    refine Tk_blk ?_
    refine Tk_region ?_
    refine Tops_step rfl (OpT_move rfl rfl rfl rfl) ?_
    refine Tops_step rfl (OpT_bin rfl rfl rfl rfl rfl (bin_add_i (a := i1) (b := (1 : Int)))) ?_
    refine Tops_step rfl (OpT_assign rfl rfl rfl rfl) ?_
    refine Tops_nil ?_
    refine Tk_wkS (fr' := [(0, some (vl1)), (3, some (v3)), (4, some (vI (wi (i1 + (1 : Int)))))]) (own' := [some (rowS u8S v3 (out1 ++ bytes1))]) (shr' := [Fact.sl DescS vl1 l]) [0, 3, 4] [0] [0] rfl rfl rfl rfl ?_
    exact Tk_backS (out1 ++ bytes1, wi (i1 + (1 : Int)), v3) h [0, 3, 4] [0] [0] rfl rfl rfl rfl rfl
  · replace h := br_f hg1 h
    refine Tk_condF (congrArg (fun b => some (Value.bool b)) hg1) ?_
    refine Tk_exit _ rfl ?_
    refine Tk_seq ?_
    refine Tk_region ?_
    refine Tops_step rfl (OpT_move rfl rfl rfl rfl) ?_
    refine Tops_step rfl (OpT_assign rfl rfl rfl rfl) ?_
    refine Tops_nil ?_
    refine Tk_wkS (fr' := [(2, some (v1))]) (own' := [some (rowS u8S v1 out1)]) (shr' := []) [2] [0] [] rfl rfl rfl rfl ?_
    obtain rfl := Option.some.inj h
    exact Tk_retV rfl (resA (vs := [v1]) rfl ⟨rfl, trivial⟩) [0] [] rfl rfl rfl ⟨v1, rfl, rfl, rfl⟩

set_option maxRecDepth 100000 in
set_option maxHeartbeats 4000000 in
theorem w_ref_ReadUsed03 {wp0 : UInt64} {r : Used} (h : ref_ReadUsed03 wp0 = some r) :
    Ctr Try.prog 28 #[vU64 wp0] [] []
      (fun rv own shr => rv = .agg #[vU32 r.ID, vU32 r.Len] ∧ own = [] ∧ shr = []) := by
  unfold ref_ReadUsed03 at h
  refine Ctr.mk (args := [vU64 wp0]) Try.func28 rfl rfl (fun R0 w0 B => ?_)
  refine Tk_seq ?_
  refine Tk_region ?_
  refine Tops_ex rfl (OpT_alloc rfl rfl rfl tyZ49) fun b1 => ?_
  refine Tops_nil ?_
  refine Tk_seq ?_
  refine Tk_region ?_
  refine Tops_step rfl (OpT_move rfl rfl rfl rfl) ?_
  refine Tops_step rfl (OpT_bin rfl rfl rfl rfl rfl (bin_rem_u64 (a := wp0) (b := (4294967296 : UInt64)) rfl)) ?_
  refine Tops_step rfl (OpT_cnv rfl rfl rfl rfl (cnv_u64_u32 (n := wp0 % (4294967296 : UInt64)) Try.underlying26 Try.underlying27)) ?_
  refine Tops_step rfl (OpT_move rfl rfl rfl rfl) ?_
  refine Tops_step rfl (OpT_bin rfl rfl rfl rfl rfl (bin_shr_u64_u64 (a := wp0) (n := (32 : UInt64)))) ?_
  refine Tops_step rfl (OpT_cnv rfl rfl rfl rfl (cnv_u64_u32 (n := shr64 wp0 ((32 : UInt64).toNat)) Try.underlying26 Try.underlying27)) ?_
  refine Tops_step rfl (OpT_build (v := .agg #[vU32 ((wp0 % (4294967296 : UInt64)).toUInt32), vU32 ((shr64 wp0 ((32 : UInt64).toNat)).toUInt32)]) rfl rfl rfl rfl (bldV (by kernel_rfl))) ?_
  refine Tops_step rfl (OpT_storeC (cs' := [vU32 ((wp0 % (4294967296 : UInt64)).toUInt32), vU32 ((shr64 wp0 ((32 : UInt64).toNat)).toUInt32)]) rfl rfl rfl rfl tyF49 (i := 0) rfl rfl rfl (one_of rfl) rfl) ?_
  refine Tops_nil ?_
  refine Tk_wkS (fr' := [(2, some (.pointer (some ⟨b1, 0, none⟩)))]) (own' := [some (cellsR b1 49 [vU32 ((wp0 % (4294967296 : UInt64)).toUInt32), vU32 ((shr64 wp0 ((32 : UInt64).toNat)).toUInt32)])]) (shr' := []) [2] [0] [] rfl rfl rfl rfl ?_
  obtain rfl := Option.some.inj h
  exact Tk_retV rfl (resA (vs := [.agg #[vU32 ((wp0 % (4294967296 : UInt64)).toUInt32), vU32 ((shr64 wp0 ((32 : UInt64).toNat)).toUInt32)]]) rfl ⟨⟨_, 0, _, _, _, rfl, rfl, .inl ⟨tyF49, rfl, rfl⟩⟩, trivial⟩) [] [] rfl rfl rfl ⟨rfl, rfl, rfl⟩

set_option maxRecDepth 100000 in
set_option maxHeartbeats 4000000 in
theorem w_ref_ReadEvent03 {wp0 : UInt64} {r : Event} (h : ref_ReadEvent03 wp0 = some r) :
    Ctr Try.prog 29 #[vU64 wp0] [] []
      (fun rv own shr => rv = .agg #[vU16 r.Off, vU16 r.Flags] ∧ own = [] ∧ shr = []) := by
  unfold ref_ReadEvent03 at h
  refine Ctr.mk (args := [vU64 wp0]) Try.func29 rfl rfl (fun R0 w0 B => ?_)
  refine Tk_seq ?_
  refine Tk_region ?_
  refine Tops_ex rfl (OpT_alloc rfl rfl rfl tyZ52) fun b1 => ?_
  refine Tops_nil ?_
  refine Tk_seq ?_
  refine Tk_region ?_
  refine Tops_step rfl (OpT_move rfl rfl rfl rfl) ?_
  refine Tops_step rfl (OpT_bin rfl rfl rfl rfl rfl (bin_rem_u64 (a := wp0) (b := (65536 : UInt64)) rfl)) ?_
  refine Tops_step rfl (OpT_cnv rfl rfl rfl rfl (cnv_u64_u16 (n := wp0 % (65536 : UInt64)) Try.underlying26 Try.underlying22)) ?_
  refine Tops_step rfl (OpT_move rfl rfl rfl rfl) ?_
  refine Tops_step rfl (OpT_bin rfl rfl rfl rfl rfl (bin_shr_u64_u64 (a := wp0) (n := (16 : UInt64)))) ?_
  refine Tops_step rfl (OpT_bin rfl rfl rfl rfl rfl (bin_rem_u64 (a := shr64 wp0 ((16 : UInt64).toNat)) (b := (65536 : UInt64)) rfl)) ?_
  refine Tops_step rfl (OpT_cnv rfl rfl rfl rfl (cnv_u64_u16 (n := (shr64 wp0 ((16 : UInt64).toNat)) % (65536 : UInt64)) Try.underlying26 Try.underlying22)) ?_
  refine Tops_step rfl (OpT_build (v := .agg #[vU16 ((wp0 % (65536 : UInt64)).toUInt16), vU16 (((shr64 wp0 ((16 : UInt64).toNat)) % (65536 : UInt64)).toUInt16)]) rfl rfl rfl rfl (bldV (by kernel_rfl))) ?_
  refine Tops_step rfl (OpT_storeC (cs' := [vU16 ((wp0 % (65536 : UInt64)).toUInt16), vU16 (((shr64 wp0 ((16 : UInt64).toNat)) % (65536 : UInt64)).toUInt16)]) rfl rfl rfl rfl tyF52 (i := 0) rfl rfl rfl (one_of rfl) rfl) ?_
  refine Tops_nil ?_
  refine Tk_wkS (fr' := [(2, some (.pointer (some ⟨b1, 0, none⟩)))]) (own' := [some (cellsR b1 52 [vU16 ((wp0 % (65536 : UInt64)).toUInt16), vU16 (((shr64 wp0 ((16 : UInt64).toNat)) % (65536 : UInt64)).toUInt16)])]) (shr' := []) [2] [0] [] rfl rfl rfl rfl ?_
  obtain rfl := Option.some.inj h
  exact Tk_retV rfl (resA (vs := [.agg #[vU16 ((wp0 % (65536 : UInt64)).toUInt16), vU16 (((shr64 wp0 ((16 : UInt64).toNat)) % (65536 : UInt64)).toUInt16)]]) rfl ⟨⟨_, 0, _, _, _, rfl, rfl, .inl ⟨tyF52, rfl, rfl⟩⟩, trivial⟩) [] [] rfl rfl rfl ⟨rfl, rfl, rfl⟩

theorem ws_ref_Bytes03 {dp0 : Desc} {r : (List UInt8)} (h : ref_Bytes03 dp0 = some r) :
    Ctr Try.prog 30 #[.agg #[vU64 dp0.Addr, vU32 dp0.Len, vU16 dp0.Flags, vU16 dp0.Next]] [] []
      (fun rv own shr => ∃ (w1 : Value), rv = w1 ∧ own = [] ∧ shr = [Fact.sl u8S w1 r]) :=
  Ctr.sh (w_ref_Bytes03 h) (by rintro w1 _ _ ⟨_, rfl, rfl, rfl⟩; exact ⟨[], _, _, _, _, rfl, w1, rfl, rfl, rfl⟩)

set_option maxRecDepth 100000 in
set_option maxHeartbeats 4000000 in
theorem w_ref_PackedBytes03 {dp0 : Packed} {r : (List UInt8)} (h : ref_PackedBytes03 dp0 = some r) :
    Ctr Try.prog 31 #[.agg #[vU64 dp0.Addr, vU32 dp0.Len, vU16 dp0.ID, vU16 dp0.Flags]] [] []
      (fun rv own shr => ∃ (w1 : Value), rv = w1 ∧ own = [(rowS u8S w1 r)] ∧ shr = []) := by
  unfold ref_PackedBytes03 at h
  refine Ctr.mk (args := [.agg #[vU64 dp0.Addr, vU32 dp0.Len, vU16 dp0.ID, vU16 dp0.Flags]]) Try.func31 rfl rfl (fun R0 w0 B => ?_)
  refine Tk_seq ?_
  refine Tk_region ?_
  refine Tops_ex rfl (OpT_box rfl rfl rfl rfl) fun b1 => ?_
  refine Tops_step rfl (OpT_assign rfl rfl rfl rfl) ?_
  refine Tops_nil ?_
  refine Tk_wkS (fr' := [(1, some (.pointer (some ⟨b1, 0, none⟩)))]) (own' := [some (cellsR b1 31 [vU64 dp0.Addr, vU32 dp0.Len, vU16 dp0.ID, vU16 dp0.Flags])]) (shr' := []) [1] [0] [] rfl rfl rfl rfl ?_
  refine Tk_seq ?_
  refine Tk_drawT (by kernel_rfl) ?_
  refine TA_tb [0, 1, 3, 0, 8, 24, 63, 0, 128, 384, 1023, 0, 2048, 6144, 16383, 32767] (by kernel_rfl) fun htb => ?_
  refine TA_nilrow u8S ?_
  obtain ⟨put1, hx1, h⟩ := ob_e h
  obtain ⟨put2, hx2, h⟩ := ob_e h
  obtain ⟨put3, hx3, h⟩ := ob_e h
  refine TA_seg (lo := 0) (hi := 14) htb rfl rfl (by kernel_rfl) (fun c L a w => ∃ (v1 : Value), ∃ (v2 : Value), ∃ (v3 : Value), Sat c ⟨[(1, some (.pointer (some ⟨b1, 0, none⟩))), (3, bif L 0 then some (.pointer (some ⟨b1, 0, none⟩)) else none), (4, bif L 1 then some (vU64 dp0.Addr) else none), (5, bif L 2 then some (v1) else none), (6, bif L 3 then some (.pointer (some ⟨b1, 1, none⟩)) else none), (7, bif L 4 then some (vU32 dp0.Len) else none), (8, bif L 5 then some (vU64 dp0.Len.toUInt64) else none), (9, bif L 6 then some (v2) else none), (10, bif L 7 then some (.pointer (some ⟨b1, 2, none⟩)) else none), (11, bif L 8 then some (vU16 dp0.ID) else none), (12, bif L 9 then some (vU64 dp0.ID.toUInt64) else none), (13, bif L 10 then some (v3) else none), (14, bif L 11 then some (.pointer (some ⟨b1, 3, none⟩)) else none), (15, bif L 12 then some (vU16 dp0.Flags) else none), (16, bif L 13 then some (vU64 dp0.Flags.toUInt64) else none)], [(some (cellsR b1 31 [vU64 dp0.Addr, vU32 dp0.Len, vU16 dp0.ID, vU16 dp0.Flags]) : Option Res), (bif L 2 then none else some (rowS u8S (.slice none 0 0) ([] : List UInt8)) : Option Res), (bif L 6 then none else bif L 2 then some (rowS u8S v1 put1) else none : Option Res), (bif L 10 then none else bif L 6 then some (rowS u8S v2 put2) else none : Option Res), (bif L 10 then some (rowS u8S v3 put3) else none : Option Res)], []⟩ a w) [([], [1, 2, 6, 10]), ([0], [2, 6, 10]), ([0, 1], [6, 10]), ([], [4, 5, 6, 10]), ([3], [5, 6, 10]), ([3, 4], [6, 10]), ([0, 1, 2, 3, 4, 5], [10]), ([], [8, 9, 10]), ([7], [9, 10]), ([7, 8], [10]), ([0, 1, 2, 3, 4, 5, 6, 7, 8, 9], []), ([], [12, 13]), ([11], [13]), ([11, 12], [])] rfl (by kernel_rfl) ?_ (steps_cons ?_ (steps_cons ?_ (steps_cons ?_ (steps_cons ?_ (steps_cons ?_ (steps_cons ?_ (steps_cons ?_ (steps_cons ?_ (steps_cons ?_ (steps_cons ?_ (steps_cons ?_ (steps_cons ?_ (steps_cons ?_ (steps_cons ?_ (steps_nil))))))))))))))) ?_
  · intro a w hs
    exact ⟨undef, undef, undef, hs.startF [3, 4, 5, 6, 7, 8, 9, 10, 11, 12, 13, 14, 15, 16] [0, 1, 2, 3, 4] [] rfl rfl rfl rfl⟩
  · intro L a w hv K Q hK
    obtain ⟨v1, v2, v3, hs⟩ := hv
    refine wpOp_go rfl rfl hs (OpT_fieldC rfl rfl rfl rfl fldF31x0) ?_
    rintro _ rfl a' w' hs'
    exact hK a' w' ⟨v1, v2, v3, hs'.putF (i := 1) rfl [0, 1, 2, 3, 4] [] rfl rfl rfl rfl⟩
  · intro L a w hv K Q hK
    obtain ⟨v1, v2, v3, hs⟩ := hv
    refine wpOp_go rfl rfl hs (OpT_loadC rfl rfl rfl rfl tyF26 (i := 0) rfl rfl) ?_
    rintro _ rfl a' w' hs'
    exact hK a' w' ⟨v1, v2, v3, hs'.putF (i := 2) rfl [0, 1, 2, 3, 4] [] rfl rfl rfl rfl⟩
  · intro L a w hv K Q hK
    obtain ⟨v1, v2, v3, hs⟩ := hv
    refine wpOp_go rfl rfl hs (OpT_call (w_ref_put03 hx1) [1] [] rfl rfl rfl rfl rfl callee41 rfl rfl rfl rfl) ?_
    rintro _ ⟨v1', _, _, ⟨_, rfl, rfl, rfl⟩, rfl⟩ a' w' hs'
    exact hK a' w' ⟨v1', v2, v3, hs'.putF (i := 3) rfl [0, 1, 5, 3, 4] [] rfl rfl rfl rfl⟩
  · intro L a w hv K Q hK
    obtain ⟨v1, v2, v3, hs⟩ := hv
    refine wpOp_go rfl rfl hs (OpT_fieldC rfl rfl rfl rfl fldF31x1) ?_
    rintro _ rfl a' w' hs'
    exact hK a' w' ⟨v1, v2, v3, hs'.putF (i := 4) rfl [0, 1, 2, 3, 4] [] rfl rfl rfl rfl⟩
  · intro L a w hv K Q hK
    obtain ⟨v1, v2, v3, hs⟩ := hv
    refine wpOp_go rfl rfl hs (OpT_loadC rfl rfl rfl rfl tyF27 (i := 0) rfl rfl) ?_
    rintro _ rfl a' w' hs'
    exact hK a' w' ⟨v1, v2, v3, hs'.putF (i := 5) rfl [0, 1, 2, 3, 4] [] rfl rfl rfl rfl⟩
  · intro L a w hv K Q hK
    obtain ⟨v1, v2, v3, hs⟩ := hv
    refine wpOp_go rfl rfl hs (OpT_cnv rfl rfl rfl rfl (cnv_u32_u64 (n := dp0.Len) Try.underlying27 Try.underlying26)) ?_
    rintro _ rfl a' w' hs'
    exact hK a' w' ⟨v1, v2, v3, hs'.putF (i := 6) rfl [0, 1, 2, 3, 4] [] rfl rfl rfl rfl⟩
  · intro L a w hv K Q hK
    obtain ⟨v1, v2, v3, hs⟩ := hv
    refine wpOp_go rfl rfl hs (OpT_call (w_ref_put03 hx2) [2] [] rfl rfl rfl rfl rfl callee41 rfl rfl rfl rfl) ?_
    rintro _ ⟨v2', _, _, ⟨_, rfl, rfl, rfl⟩, rfl⟩ a' w' hs'
    exact hK a' w' ⟨v1, v2', v3, hs'.putF (i := 7) rfl [0, 1, 2, 5, 4] [] rfl rfl rfl rfl⟩
  · intro L a w hv K Q hK
    obtain ⟨v1, v2, v3, hs⟩ := hv
    refine wpOp_go rfl rfl hs (OpT_fieldC rfl rfl rfl rfl fldF31x2) ?_
    rintro _ rfl a' w' hs'
    exact hK a' w' ⟨v1, v2, v3, hs'.putF (i := 8) rfl [0, 1, 2, 3, 4] [] rfl rfl rfl rfl⟩
  · intro L a w hv K Q hK
    obtain ⟨v1, v2, v3, hs⟩ := hv
    refine wpOp_go rfl rfl hs (OpT_loadC rfl rfl rfl rfl tyF22 (i := 0) rfl rfl) ?_
    rintro _ rfl a' w' hs'
    exact hK a' w' ⟨v1, v2, v3, hs'.putF (i := 9) rfl [0, 1, 2, 3, 4] [] rfl rfl rfl rfl⟩
  · intro L a w hv K Q hK
    obtain ⟨v1, v2, v3, hs⟩ := hv
    refine wpOp_go rfl rfl hs (OpT_cnv rfl rfl rfl rfl (cnv_u16_u64 (n := dp0.ID) Try.underlying22 Try.underlying26)) ?_
    rintro _ rfl a' w' hs'
    exact hK a' w' ⟨v1, v2, v3, hs'.putF (i := 10) rfl [0, 1, 2, 3, 4] [] rfl rfl rfl rfl⟩
  · intro L a w hv K Q hK
    obtain ⟨v1, v2, v3, hs⟩ := hv
    refine wpOp_go rfl rfl hs (OpT_call (w_ref_put03 hx3) [3] [] rfl rfl rfl rfl rfl callee41 rfl rfl rfl rfl) ?_
    rintro _ ⟨v3', _, _, ⟨_, rfl, rfl, rfl⟩, rfl⟩ a' w' hs'
    exact hK a' w' ⟨v1, v2, v3', hs'.putF (i := 11) rfl [0, 1, 2, 3, 5] [] rfl rfl rfl rfl⟩
  · intro L a w hv K Q hK
    obtain ⟨v1, v2, v3, hs⟩ := hv
    refine wpOp_go rfl rfl hs (OpT_fieldC rfl rfl rfl rfl fldF31x3) ?_
    rintro _ rfl a' w' hs'
    exact hK a' w' ⟨v1, v2, v3, hs'.putF (i := 12) rfl [0, 1, 2, 3, 4] [] rfl rfl rfl rfl⟩
  · intro L a w hv K Q hK
    obtain ⟨v1, v2, v3, hs⟩ := hv
    refine wpOp_go rfl rfl hs (OpT_loadC rfl rfl rfl rfl tyF22 (i := 0) rfl rfl) ?_
    rintro _ rfl a' w' hs'
    exact hK a' w' ⟨v1, v2, v3, hs'.putF (i := 13) rfl [0, 1, 2, 3, 4] [] rfl rfl rfl rfl⟩
  · intro L a w hv K Q hK
    obtain ⟨v1, v2, v3, hs⟩ := hv
    refine wpOp_go rfl rfl hs (OpT_cnv rfl rfl rfl rfl (cnv_u16_u64 (n := dp0.Flags) Try.underlying22 Try.underlying26)) ?_
    rintro _ rfl a' w' hs'
    exact hK a' w' ⟨v1, v2, v3, hs'.putF (i := 14) rfl [0, 1, 2, 3, 4] [] rfl rfl rfl rfl⟩
  · intro L a w hL hv
    rw [allTrue hL] at hv
    obtain ⟨v1, v2, v3, hs⟩ := hv
    refine (show TA _ _ _ 14 ⟨[(13, some (v3)), (16, some (vU64 dp0.Flags.toUInt64))], [some (rowS u8S v3 put3)], []⟩ from ?_) a w (hs.wkS [13, 16] [4] [] rfl rfl rfl rfl)
    clear hs hL
    obtain ⟨put4, hx4, h⟩ := ob_e h
    refine TA_exP htb (by kernel_rfl) rfl rfl (OpT_call (w_ref_put03 hx4) [0] [] rfl rfl rfl rfl rfl callee41 rfl rfl rfl rfl) ?_
    rintro _ ⟨v4, _, _, ⟨_, rfl, rfl, rfl⟩, rfl⟩
    refine TA_step htb (by kernel_rfl) rfl rfl (OpT_assign rfl rfl rfl rfl) ?_
    refine TA_end rfl ?_
    refine Tk_wkS (fr' := [(2, some (v4))]) (own' := [some (rowS u8S v4 put4)]) (shr' := []) [2] [1] [] rfl rfl rfl rfl ?_
    obtain rfl := Option.some.inj h
    exact Tk_retV rfl (resA (vs := [v4]) rfl ⟨rfl, trivial⟩) [0] [] rfl rfl rfl ⟨v4, rfl, rfl, rfl⟩

theorem ws_ref_PackedBytes03 {dp0 : Packed} {r : (List UInt8)} (h : ref_PackedBytes03 dp0 = some r) :
    Ctr Try.prog 31 #[.agg #[vU64 dp0.Addr, vU32 dp0.Len, vU16 dp0.ID, vU16 dp0.Flags]] [] []
      (fun rv own shr => ∃ (w1 : Value), rv = w1 ∧ own = [] ∧ shr = [Fact.sl u8S w1 r]) :=
  Ctr.sh (w_ref_PackedBytes03 h) (by rintro w1 _ _ ⟨_, rfl, rfl, rfl⟩; exact ⟨[], _, _, _, _, rfl, w1, rfl, rfl, rfl⟩)

set_option maxRecDepth 100000 in
set_option maxHeartbeats 4000000 in
theorem w_ref_UsedWord03 {u : Used} {r : UInt64} (h : ref_UsedWord03 u = some r) :
    Ctr Try.prog 32 #[.agg #[vU32 u.ID, vU32 u.Len]] [] []
      (fun rv own shr => rv = vU64 r ∧ own = [] ∧ shr = []) := by
  unfold ref_UsedWord03 at h
  refine Ctr.mk (args := [.agg #[vU32 u.ID, vU32 u.Len]]) Try.func32 rfl rfl (fun R0 w0 B => ?_)
  refine Tk_seq ?_
  refine Tk_region ?_
  refine Tops_ex rfl (OpT_box rfl rfl rfl rfl) fun b1 => ?_
  refine Tops_step rfl (OpT_assign rfl rfl rfl rfl) ?_
  refine Tops_nil ?_
  refine Tk_wkS (fr' := [(1, some (.pointer (some ⟨b1, 0, none⟩)))]) (own' := [some (cellsR b1 49 [vU32 u.ID, vU32 u.Len])]) (shr' := []) [1] [0] [] rfl rfl rfl rfl ?_
  refine Tk_seq ?_
  refine Tk_region ?_
  refine Tops_step rfl (OpT_fieldC rfl rfl rfl rfl fldF49x0) ?_
  refine Tops_step rfl (OpT_loadC rfl rfl rfl rfl tyF27 (i := 0) rfl rfl) ?_
  refine Tops_step rfl (OpT_cnv rfl rfl rfl rfl (cnv_u32_u64 (n := u.ID) Try.underlying27 Try.underlying26)) ?_
  refine Tops_step rfl (OpT_fieldC rfl rfl rfl rfl fldF49x1) ?_
  refine Tops_step rfl (OpT_loadC rfl rfl rfl rfl tyF27 (i := 0) rfl rfl) ?_
  refine Tops_step rfl (OpT_cnv rfl rfl rfl rfl (cnv_u32_u64 (n := u.Len) Try.underlying27 Try.underlying26)) ?_
  refine Tops_step rfl (OpT_bin rfl rfl rfl rfl rfl (bin_shl_u64_u64 (a := u.Len.toUInt64) (n := (32 : UInt64)))) ?_
  refine Tops_step rfl (OpT_bin rfl rfl rfl rfl rfl (bin_add_u64 (a := u.ID.toUInt64) (b := shl64 u.Len.toUInt64 ((32 : UInt64).toNat)))) ?_
  refine Tops_step rfl (OpT_assign rfl rfl rfl rfl) ?_
  refine Tops_nil ?_
  refine Tk_wkS (fr' := [(2, some (vU64 (u.ID.toUInt64 + (shl64 u.Len.toUInt64 ((32 : UInt64).toNat)))))]) (own' := []) (shr' := []) [2] [] [] rfl rfl rfl rfl ?_
  obtain rfl := Option.some.inj h
  exact Tk_retV rfl (resA (vs := [vU64 (u.ID.toUInt64 + (shl64 u.Len.toUInt64 ((32 : UInt64).toNat)))]) rfl ⟨rfl, trivial⟩) [] [] rfl rfl rfl ⟨rfl, rfl, rfl⟩

set_option maxRecDepth 100000 in
set_option maxHeartbeats 4000000 in
theorem w_ref_EventWord03 {ep0 : Event} {r : UInt64} (h : ref_EventWord03 ep0 = some r) :
    Ctr Try.prog 33 #[.agg #[vU16 ep0.Off, vU16 ep0.Flags]] [] []
      (fun rv own shr => rv = vU64 r ∧ own = [] ∧ shr = []) := by
  unfold ref_EventWord03 at h
  refine Ctr.mk (args := [.agg #[vU16 ep0.Off, vU16 ep0.Flags]]) Try.func33 rfl rfl (fun R0 w0 B => ?_)
  refine Tk_seq ?_
  refine Tk_region ?_
  refine Tops_ex rfl (OpT_box rfl rfl rfl rfl) fun b1 => ?_
  refine Tops_step rfl (OpT_assign rfl rfl rfl rfl) ?_
  refine Tops_nil ?_
  refine Tk_wkS (fr' := [(1, some (.pointer (some ⟨b1, 0, none⟩)))]) (own' := [some (cellsR b1 52 [vU16 ep0.Off, vU16 ep0.Flags])]) (shr' := []) [1] [0] [] rfl rfl rfl rfl ?_
  refine Tk_seq ?_
  refine Tk_region ?_
  refine Tops_step rfl (OpT_fieldC rfl rfl rfl rfl fldF52x0) ?_
  refine Tops_step rfl (OpT_loadC rfl rfl rfl rfl tyF22 (i := 0) rfl rfl) ?_
  refine Tops_step rfl (OpT_cnv rfl rfl rfl rfl (cnv_u16_u64 (n := ep0.Off) Try.underlying22 Try.underlying26)) ?_
  refine Tops_step rfl (OpT_fieldC rfl rfl rfl rfl fldF52x1) ?_
  refine Tops_step rfl (OpT_loadC rfl rfl rfl rfl tyF22 (i := 0) rfl rfl) ?_
  refine Tops_step rfl (OpT_cnv rfl rfl rfl rfl (cnv_u16_u64 (n := ep0.Flags) Try.underlying22 Try.underlying26)) ?_
  refine Tops_step rfl (OpT_bin rfl rfl rfl rfl rfl (bin_shl_u64_u64 (a := ep0.Flags.toUInt64) (n := (16 : UInt64)))) ?_
  refine Tops_step rfl (OpT_bin rfl rfl rfl rfl rfl (bin_add_u64 (a := ep0.Off.toUInt64) (b := shl64 ep0.Flags.toUInt64 ((16 : UInt64).toNat)))) ?_
  refine Tops_step rfl (OpT_assign rfl rfl rfl rfl) ?_
  refine Tops_nil ?_
  refine Tk_wkS (fr' := [(2, some (vU64 (ep0.Off.toUInt64 + (shl64 ep0.Flags.toUInt64 ((16 : UInt64).toNat)))))]) (own' := []) (shr' := []) [2] [] [] rfl rfl rfl rfl ?_
  obtain rfl := Option.some.inj h
  exact Tk_retV rfl (resA (vs := [vU64 (ep0.Off.toUInt64 + (shl64 ep0.Flags.toUInt64 ((16 : UInt64).toNat)))]) rfl ⟨rfl, trivial⟩) [] [] rfl rfl rfl ⟨rfl, rfl, rfl⟩

theorem ws_ref_Table03 {l : List Desc} {vl1 : Value} {r : (List UInt8)} (h : ref_Table03 l = some r) :
    Ctr Try.prog 34 #[vl1] [] [Fact.sl DescS vl1 l]
      (fun rv own shr => ∃ (w1 : Value), rv = w1 ∧ own = [] ∧ shr = [Fact.sl u8S w1 r]) :=
  Ctr.sh (w_ref_Table03 h) (by rintro w1 _ _ ⟨_, rfl, rfl, rfl⟩; exact ⟨[], _, _, _, _, rfl, w1, rfl, rfl, rfl⟩)

set_option maxRecDepth 100000 in
set_option maxHeartbeats 4000000 in
theorem w_ref_Avail03 {flags : UInt16} {wrap : Bool} {r : Bool} (h : ref_Avail03 flags wrap = some r) :
    Ctr Try.prog 35 #[vU16 flags, vB wrap] [] []
      (fun rv own shr => rv = vB r ∧ own = [] ∧ shr = []) := by
  unfold ref_Avail03 at h
  refine Ctr.mk (args := [vU16 flags, vB wrap]) Try.func35 rfl rfl (fun R0 w0 B => ?_)
  refine Tk_seq ?_
  refine Tk_region ?_
  refine Tops_step rfl (OpT_assign rfl rfl rfl rfl) ?_
  refine Tops_nil ?_
  refine Tk_wkS (fr' := [(0, some (vU16 flags)), (1, some (vB wrap))]) (own' := []) (shr' := []) [0, 1] [] [] rfl rfl rfl rfl ?_
  refine Tk_seq ?_
  refine Tk_region ?_
  refine Tops_step rfl (OpT_move rfl rfl rfl rfl) ?_
  refine Tops_step rfl (OpT_bin rfl rfl rfl rfl rfl (bin_and_u16 (a := flags) (b := (128 : UInt16)))) ?_
  refine Tops_step rfl (OpT_bin rfl rfl rfl rfl rfl (bin_neq_u16 (a := flags &&& (128 : UInt16)) (b := (0 : UInt16)))) ?_
  refine Tops_step rfl (OpT_move rfl rfl rfl rfl) ?_
  refine Tops_step rfl (OpT_bin rfl rfl rfl rfl rfl (bin_eql_b (a := (flags &&& (128 : UInt16)) != (0 : UInt16)) (b := wrap) Try.underlying4)) ?_
  refine Tops_step rfl (OpT_move rfl rfl rfl rfl) ?_
  rcases Bool.eq_false_or_eq_true (((flags &&& (128 : UInt16)) != (0 : UInt16)) == wrap) with hg1 | hg1
  · replace h := br_t hg1 h
    refine Tops_yes rfl rfl (congrArg (fun b => some (Value.bool b)) hg1) (OpT_move rfl rfl rfl rfl) ?_
    rintro _ rfl
    refine Tops_yes rfl rfl (congrArg (fun b => some (Value.bool b)) hg1) (OpT_bin rfl rfl rfl rfl rfl (bin_and_u16 (a := flags) (b := (32768 : UInt16)))) ?_
    rintro _ rfl
    refine Tops_yes rfl rfl (congrArg (fun b => some (Value.bool b)) hg1) (OpT_bin rfl rfl rfl rfl rfl (bin_neq_u16 (a := flags &&& (32768 : UInt16)) (b := (0 : UInt16)))) ?_
    rintro _ rfl
    refine Tops_yes rfl rfl (congrArg (fun b => some (Value.bool b)) hg1) (OpT_move rfl rfl rfl rfl) ?_
    rintro _ rfl
    refine Tops_yes rfl rfl (congrArg (fun b => some (Value.bool b)) hg1) (OpT_bin rfl rfl rfl rfl rfl (bin_neq_b (a := (flags &&& (32768 : UInt16)) != (0 : UInt16)) (b := wrap) Try.underlying4)) ?_
    rintro _ rfl
    refine Tops_step rfl (OpT_pickT rfl rfl rfl (congrArg (fun b => some (Value.bool b)) hg1) rfl) ?_
    refine Tops_step rfl (OpT_assign rfl rfl rfl rfl) ?_
    refine Tops_nil ?_
    refine Tk_wkS (fr' := [(4, some (vB (((flags &&& (32768 : UInt16)) != (0 : UInt16)) != wrap)))]) (own' := []) (shr' := []) [4] [] [] rfl rfl rfl rfl ?_
    obtain rfl := Option.some.inj h
    exact Tk_retV rfl (resA (vs := [vB (((flags &&& (32768 : UInt16)) != (0 : UInt16)) != wrap)]) rfl ⟨rfl, trivial⟩) [] [] rfl rfl rfl ⟨rfl, rfl, rfl⟩
  · replace h := br_f hg1 h
    refine Tops_no rfl rfl (congrArg (fun b => some (Value.bool b)) hg1) rfl rfl ?_
    refine Tops_no rfl rfl (congrArg (fun b => some (Value.bool b)) hg1) rfl rfl ?_
    refine Tops_no rfl rfl (congrArg (fun b => some (Value.bool b)) hg1) rfl rfl ?_
    refine Tops_no rfl rfl (congrArg (fun b => some (Value.bool b)) hg1) rfl rfl ?_
    refine Tops_no rfl rfl (congrArg (fun b => some (Value.bool b)) hg1) rfl rfl ?_
    refine Tops_step rfl (OpT_pickF rfl rfl rfl (congrArg (fun b => some (Value.bool b)) hg1) rfl) ?_
    refine Tops_step rfl (OpT_assign rfl rfl rfl rfl) ?_
    refine Tops_nil ?_
    refine Tk_wkS (fr' := [(4, some (vB false))]) (own' := []) (shr' := []) [4] [] [] rfl rfl rfl rfl ?_
    obtain rfl := Option.some.inj h
    exact Tk_retV rfl (resA (vs := [vB false]) rfl ⟨rfl, trivial⟩) [] [] rfl rfl rfl ⟨rfl, rfl, rfl⟩

set_option maxRecDepth 100000 in
set_option maxHeartbeats 4000000 in
theorem w_ref_Used03 {flags : UInt16} {wrap : Bool} {r : Bool} (h : ref_Used03 flags wrap = some r) :
    Ctr Try.prog 36 #[vU16 flags, vB wrap] [] []
      (fun rv own shr => rv = vB r ∧ own = [] ∧ shr = []) := by
  unfold ref_Used03 at h
  refine Ctr.mk (args := [vU16 flags, vB wrap]) Try.func36 rfl rfl (fun R0 w0 B => ?_)
  refine Tk_seq ?_
  refine Tk_region ?_
  refine Tops_step rfl (OpT_assign rfl rfl rfl rfl) ?_
  refine Tops_nil ?_
  refine Tk_wkS (fr' := [(0, some (vU16 flags)), (1, some (vB wrap))]) (own' := []) (shr' := []) [0, 1] [] [] rfl rfl rfl rfl ?_
  refine Tk_seq ?_
  refine Tk_region ?_
  refine Tops_step rfl (OpT_move rfl rfl rfl rfl) ?_
  refine Tops_step rfl (OpT_bin rfl rfl rfl rfl rfl (bin_and_u16 (a := flags) (b := (128 : UInt16)))) ?_
  refine Tops_step rfl (OpT_bin rfl rfl rfl rfl rfl (bin_neq_u16 (a := flags &&& (128 : UInt16)) (b := (0 : UInt16)))) ?_
  refine Tops_step rfl (OpT_move rfl rfl rfl rfl) ?_
  refine Tops_step rfl (OpT_bin rfl rfl rfl rfl rfl (bin_eql_b (a := (flags &&& (128 : UInt16)) != (0 : UInt16)) (b := wrap) Try.underlying4)) ?_
  refine Tops_step rfl (OpT_move rfl rfl rfl rfl) ?_
  rcases Bool.eq_false_or_eq_true (((flags &&& (128 : UInt16)) != (0 : UInt16)) == wrap) with hg1 | hg1
  · replace h := br_t hg1 h
    refine Tops_yes rfl rfl (congrArg (fun b => some (Value.bool b)) hg1) (OpT_move rfl rfl rfl rfl) ?_
    rintro _ rfl
    refine Tops_yes rfl rfl (congrArg (fun b => some (Value.bool b)) hg1) (OpT_bin rfl rfl rfl rfl rfl (bin_and_u16 (a := flags) (b := (32768 : UInt16)))) ?_
    rintro _ rfl
    refine Tops_yes rfl rfl (congrArg (fun b => some (Value.bool b)) hg1) (OpT_bin rfl rfl rfl rfl rfl (bin_neq_u16 (a := flags &&& (32768 : UInt16)) (b := (0 : UInt16)))) ?_
    rintro _ rfl
    refine Tops_yes rfl rfl (congrArg (fun b => some (Value.bool b)) hg1) (OpT_move rfl rfl rfl rfl) ?_
    rintro _ rfl
    refine Tops_yes rfl rfl (congrArg (fun b => some (Value.bool b)) hg1) (OpT_bin rfl rfl rfl rfl rfl (bin_eql_b (a := (flags &&& (32768 : UInt16)) != (0 : UInt16)) (b := wrap) Try.underlying4)) ?_
    rintro _ rfl
    refine Tops_step rfl (OpT_pickT rfl rfl rfl (congrArg (fun b => some (Value.bool b)) hg1) rfl) ?_
    refine Tops_step rfl (OpT_assign rfl rfl rfl rfl) ?_
    refine Tops_nil ?_
    refine Tk_wkS (fr' := [(4, some (vB (((flags &&& (32768 : UInt16)) != (0 : UInt16)) == wrap)))]) (own' := []) (shr' := []) [4] [] [] rfl rfl rfl rfl ?_
    obtain rfl := Option.some.inj h
    exact Tk_retV rfl (resA (vs := [vB (((flags &&& (32768 : UInt16)) != (0 : UInt16)) == wrap)]) rfl ⟨rfl, trivial⟩) [] [] rfl rfl rfl ⟨rfl, rfl, rfl⟩
  · replace h := br_f hg1 h
    refine Tops_no rfl rfl (congrArg (fun b => some (Value.bool b)) hg1) rfl rfl ?_
    refine Tops_no rfl rfl (congrArg (fun b => some (Value.bool b)) hg1) rfl rfl ?_
    refine Tops_no rfl rfl (congrArg (fun b => some (Value.bool b)) hg1) rfl rfl ?_
    refine Tops_no rfl rfl (congrArg (fun b => some (Value.bool b)) hg1) rfl rfl ?_
    refine Tops_no rfl rfl (congrArg (fun b => some (Value.bool b)) hg1) rfl rfl ?_
    refine Tops_step rfl (OpT_pickF rfl rfl rfl (congrArg (fun b => some (Value.bool b)) hg1) rfl) ?_
    refine Tops_step rfl (OpT_assign rfl rfl rfl rfl) ?_
    refine Tops_nil ?_
    refine Tk_wkS (fr' := [(4, some (vB false))]) (own' := []) (shr' := []) [4] [] [] rfl rfl rfl rfl ?_
    obtain rfl := Option.some.inj h
    exact Tk_retV rfl (resA (vs := [vB false]) rfl ⟨rfl, trivial⟩) [] [] rfl rfl rfl ⟨rfl, rfl, rfl⟩

set_option maxRecDepth 100000 in
set_option maxHeartbeats 4000000 in
theorem w_ref_Mark03 {flags : UInt16} {wrap : Bool} {used : Bool} {r : UInt16} (h : ref_Mark03 flags wrap used = some r) :
    Ctr Try.prog 37 #[vU16 flags, vB wrap, vB used] [] []
      (fun rv own shr => rv = vU16 r ∧ own = [] ∧ shr = []) := by
  unfold ref_Mark03 at h
  refine Ctr.mk (args := [vU16 flags, vB wrap, vB used]) Try.func37 rfl rfl (fun R0 w0 B => ?_)
  refine Tk_seq ?_
  refine Tk_region ?_
  refine Tops_step rfl (OpT_assign rfl rfl rfl rfl) ?_
  refine Tops_nil ?_
  refine Tk_wkS (fr' := [(0, some (vU16 flags)), (1, some (vB wrap)), (2, some (vB used))]) (own' := []) (shr' := []) [0, 1, 2] [] [] rfl rfl rfl rfl ?_
  refine Tk_seq ?_
  refine Tk_region ?_
  refine Tops_step rfl (OpT_move rfl rfl rfl rfl) ?_
  refine Tops_step rfl (OpT_bin rfl rfl rfl rfl rfl (bin_andNot_u16 (a := flags) (b := (32896 : UInt16)))) ?_
  refine Tops_step rfl (OpT_assign rfl rfl rfl rfl) ?_
  refine Tops_nil ?_
  refine Tk_wkS (fr' := [(0, some (vU16 (flags &&& ~~~(32896 : UInt16)))), (1, some (vB wrap)), (2, some (vB used))]) (own' := []) (shr' := []) [0, 1, 2] [] [] rfl rfl rfl rfl ?_
  refine Tk_seq ?_
  refine Tk_seq ?_
  refine Tk_region ?_
  refine Tops_step rfl (OpT_move rfl rfl rfl rfl) ?_
  refine Tops_nil ?_
  refine Tk_join (α := UInt16) (fun s => ⟨[(0, some (vU16 s)), (1, some (vB wrap)), (2, some (vB used))], [], []⟩) (fun s => ref_Mark03J1 wrap used s = some r) ?_ ?_
  · rintro flags1 h
    replace h : ref_Mark03J1 wrap used flags1 = some r := h
    unfold ref_Mark03J1 at h
    refine Tk_seq ?_
    refine Tk_seq ?_
    refine Tk_region ?_
    refine Tops_step rfl (OpT_move rfl rfl rfl rfl) ?_
    refine Tops_step rfl (OpT_move rfl rfl rfl rfl) ?_
    refine Tops_step rfl (OpT_bin rfl rfl rfl rfl rfl (bin_eql_b (a := wrap) (b := used) Try.underlying4)) ?_
    refine Tops_nil ?_
    refine Tk_wkS (fr' := [(0, some (vU16 flags1)), (14, some (vB (wrap == used)))]) (own' := []) (shr' := []) [0, 14] [] [] rfl rfl rfl rfl ?_
    rcases Bool.eq_false_or_eq_true (wrap == used) with hg1 | hg1
    · replace h := br_t hg1 h
      refine Tk_condT (congrArg (fun b => some (Value.bool b)) hg1) ?_
      refine Tk_region ?_
      refine Tops_step rfl (OpT_move rfl rfl rfl rfl) ?_
      refine Tops_step rfl (OpT_bin rfl rfl rfl rfl rfl (bin_or_u16 (a := flags1) (b := (32768 : UInt16)))) ?_
      refine Tops_step rfl (OpT_assign rfl rfl rfl rfl) ?_
      refine Tops_nil ?_
      refine Tk_wkS (fr' := [(0, some (vU16 (flags1 ||| (32768 : UInt16))))]) (own' := []) (shr' := []) [0] [] [] rfl rfl rfl rfl ?_
      refine Tk_seq ?_
      refine Tk_region ?_
      refine Tops_step rfl (OpT_move rfl rfl rfl rfl) ?_
      refine Tops_step rfl (OpT_assign rfl rfl rfl rfl) ?_
      refine Tops_nil ?_
      refine Tk_wkS (fr' := [(6, some (vU16 (flags1 ||| (32768 : UInt16))))]) (own' := []) (shr' := []) [6] [] [] rfl rfl rfl rfl ?_
      obtain rfl := Option.some.inj h
      exact Tk_retV rfl (resA (vs := [vU16 (flags1 ||| (32768 : UInt16))]) rfl ⟨rfl, trivial⟩) [] [] rfl rfl rfl ⟨rfl, rfl, rfl⟩
    · replace h := br_f hg1 h
      refine Tk_condF (congrArg (fun b => some (Value.bool b)) hg1) ?_
      refine Tk_skip ?_
      refine Tk_seq ?_
      refine Tk_region ?_
      refine Tops_step rfl (OpT_move rfl rfl rfl rfl) ?_
      refine Tops_step rfl (OpT_assign rfl rfl rfl rfl) ?_
      refine Tops_nil ?_
      refine Tk_wkS (fr' := [(6, some (vU16 flags1))]) (own' := []) (shr' := []) [6] [] [] rfl rfl rfl rfl ?_
      obtain rfl := Option.some.inj h
      exact Tk_retV rfl (resA (vs := [vU16 flags1]) rfl ⟨rfl, trivial⟩) [] [] rfl rfl rfl ⟨rfl, rfl, rfl⟩
  · intro HJ1
    rcases Bool.eq_false_or_eq_true (wrap) with hg2 | hg2
    · replace h := br_t hg2 h
      refine Tk_condT (congrArg (fun b => some (Value.bool b)) hg2) ?_
      refine Tk_region ?_
      refine Tops_step rfl (OpT_move rfl rfl rfl rfl) ?_
      refine Tops_step rfl (OpT_bin rfl rfl rfl rfl rfl (bin_or_u16 (a := flags &&& ~~~(32896 : UInt16)) (b := (128 : UInt16)))) ?_
      refine Tops_step rfl (OpT_assign rfl rfl rfl rfl) ?_
      refine Tops_nil ?_
      refine Tk_wkS (fr' := [(0, some (vU16 ((flags &&& ~~~(32896 : UInt16)) ||| (128 : UInt16)))), (1, some (vB wrap)), (2, some (vB used))]) (own' := []) (shr' := []) [0, 1, 2] [] [] rfl rfl rfl rfl ?_
      exact Tk_jmpS (HJ1 ((flags &&& ~~~(32896 : UInt16)) ||| (128 : UInt16)) h) [0, 1, 2] [] [] rfl rfl rfl rfl
    · replace h := br_f hg2 h
      refine Tk_condF (congrArg (fun b => some (Value.bool b)) hg2) ?_
      refine Tk_skip ?_
      exact Tk_jmpS (HJ1 (flags &&& ~~~(32896 : UInt16)) h) [0, 1, 2] [] [] rfl rfl rfl rfl
end Go.Proofs.Ytamdpkddehhocaa
