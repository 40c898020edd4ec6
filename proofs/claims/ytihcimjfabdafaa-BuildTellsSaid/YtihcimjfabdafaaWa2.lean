/- The functions do what the plain words say: each is walked once. No statement of the seat is proved here; no condition. -/
import Derived.Test.YtihcimjfabdafaaWa1
namespace Go.Proofs.Ytihcimjfabdafaa
attribute [local irreducible] sub
set_option maxRecDepth 100000 in
set_option maxHeartbeats 4000000 in
theorem w_desc_raw_put {rp0 : List UInt8} {atp1 : Int} {np2 : Int} {vp3 : UInt64} {b_rp0 : Nat} {r : (List UInt8)} (h : desc_raw_put rp0 atp1 np2 vp3 = some r) :
  Ctr Try.prog 61 #[.pointer (some ⟨b_rp0, 0, none⟩), vI atp1, vI np2, vU64 vp3] [(cellsR b_rp0 104 (rp0.map vU8))] []
   (fun rv own shr => rv = .tuple #[] ∧ own = [(cellsR b_rp0 104 (r.map vU8))] ∧ shr = []) := by
 unfold desc_raw_put at h
 refine Ctr.mk (args := [.pointer (some ⟨b_rp0, 0, none⟩), vI atp1, vI np2, vU64 vp3]) Try.func61 rfl rfl (fun R0 w0 B => ?_)
 refine Tk_seq (Tk_region (Tops_step rfl (OpT_move rfl rfl rfl rfl) ?_))
 refine Tops_step rfl (OpT_move rfl rfl rfl rfl) ?_
 refine Tops_nil (Tk_wkS (fr' := [(0, some (.pointer (some ⟨b_rp0, 0, none⟩))), (1, some (vI atp1)), (3, some (vU64 vp3)), (9, some (vI np2)), (10, some (vI (0 : Int)))]) (own' := [some (cellsR b_rp0 104 (rp0.map vU8))]) (shr' := []) [0, 1, 3, 9, 10] [0] [] rfl rfl rfl rfl ?_)
 refine Tk_block (Tk_loopS (σ := (List UInt8) × Int) [0, 1, 3, 9, 10] [0] [] (fun s => ⟨[(0, some (.pointer (some ⟨b_rp0, 0, none⟩))), (1, some (vI atp1)), (3, some (vU64 vp3)), (9, some (vI np2)), (10, some (vI s.2))], [some (cellsR b_rp0 104 (s.1.map vU8))], []⟩) (fun nf1 s => desc_raw_putL1 atp1 np2 vp3 nf1 s.1 s.2 = some r) fuel (rp0, (0 : Int)) h rfl rfl rfl rfl rfl (fun s h => by cases h) ?_)
 rintro nf1 ⟨m1, x1⟩ h
 replace h : desc_raw_putL1B atp1 np2 vp3 (desc_raw_putL1 atp1 np2 vp3 nf1) m1 x1 = some r := h
 unfold desc_raw_putL1B at h
 refine Tk_seq (Tk_region (Tops_step rfl (OpT_bin rfl rfl rfl rfl rfl (bin_lss_i (a := x1) (b := np2))) ?_))
 refine Tops_nil (Tk_seq ?_)
 rcases Bool.eq_false_or_eq_true (decide (x1 < np2)) with hg1 | hg1
 ·replace h := br_t hg1 h
  refine Tk_condT (congrArg (fun b => some (Value.bool b)) hg1) ?_
  refine Tk_skip (Tk_seq (Tk_block (Tk_seq (Tk_region (Tops_step rfl (OpT_move rfl rfl rfl rfl) ?_)))))
  refine Tops_step rfl (OpT_assign rfl rfl rfl rfl) ?_
  refine Tops_nil (Tk_wkS (fr' := [(0, some (.pointer (some ⟨b_rp0, 0, none⟩))), (1, some (vI atp1)), (3, some (vU64 vp3)), (9, some (vI np2)), (10, some (vI x1)), (8, some (vI x1))]) (own' := [some (cellsR b_rp0 104 (m1.map vU8))]) (shr' := []) [0, 1, 3, 9, 10, 8] [0] [] rfl rfl rfl rfl ?_)
  refine Tk_drawT (by kernel_rfl) ?_
  refine TA_tb [0, 0, 0, 6, 0, 0, 32, 112, 240, 1, 1023, 2047] (by kernel_rfl) fun htb => ?_
  obtain ⟨hc1, h⟩ := chk_e h
  refine TA_seg (lo := 0) (hi := 10) htb rfl rfl (by kernel_rfl) (fun c L a w => Sat c ⟨[(0, some (.pointer (some ⟨b_rp0, 0, none⟩))), (1, some (vI atp1)), (3, some (vU64 vp3)), (9, some (vI np2)), (10, some (vI x1)), (8, some (vI x1)), (13, bif L 0 then some (.pointer (some ⟨b_rp0, 0, none⟩)) else none), (14, bif L 1 then some (vI atp1) else none), (15, bif L 2 then some (vI x1) else none), (16, bif L 3 then some (vI (wi (atp1 + x1))) else none), (17, bif L 4 then some (vU64 vp3) else none), (18, bif L 5 then some (vI x1) else none), (19, bif L 6 then some (vI (wi ((8 : Int) * x1))) else none), (20, bif L 7 then some (vU64 (shr64 vp3 ((wi ((8 : Int) * x1)).toNat))) else none), (21, bif L 8 then some (vU8 ((shr64 vp3 ((wi ((8 : Int) * x1)).toNat)).toUInt8)) else none), (22, bif L 9 then some (.pointer (some ⟨b_rp0, 0, none⟩)) else none)], [(some (cellsR b_rp0 104 (m1.map vU8)) : Option Res)], []⟩ a w) [([], [9]), ([], [3]), ([], [3]), ([1, 2], []), ([], [7, 8]), ([], [6, 7, 8]), ([5], [7, 8]), ([4, 5, 6], [8]), ([4, 5, 6, 7], []), ([0], [])] rfl (by kernel_rfl) ?_ (steps_cons ?_ (steps_cons ?_ (steps_cons ?_ (steps_cons ?_ (steps_cons ?_ (steps_cons ?_ (steps_cons ?_ (steps_cons ?_ (steps_cons ?_ (steps_cons ?_ (steps_nil))))))))))) ?_
  ·intro a w hs
   exact hs.startF [13, 14, 15, 16, 17, 18, 19, 20, 21, 22] [0] [] rfl rfl rfl rfl
  ·intro L a w hv K Q hK
   have hs := hv
   refine wpOp_go rfl rfl hs (OpT_move rfl rfl rfl rfl) ?_
   rintro _ rfl a' w' hs'
   exact hK a' w' (hs'.putF (i := 6) rfl [0] [] rfl rfl rfl rfl)
  ·intro L a w hv K Q hK
   have hs := hv
   refine wpOp_go rfl rfl hs (OpT_move rfl rfl rfl rfl) ?_
   rintro _ rfl a' w' hs'
   exact hK a' w' (hs'.putF (i := 7) rfl [0] [] rfl rfl rfl rfl)
  ·intro L a w hv K Q hK
   have hs := hv
   refine wpOp_go rfl rfl hs (OpT_move rfl rfl rfl rfl) ?_
   rintro _ rfl a' w' hs'
   exact hK a' w' (hs'.putF (i := 8) rfl [0] [] rfl rfl rfl rfl)
  ·intro L a w hv K Q hK
   have hs := hv
   refine wpOp_go rfl rfl hs (OpT_bin rfl rfl rfl rfl rfl (bin_add_i (a := atp1) (b := x1))) ?_
   rintro _ rfl a' w' hs'
   exact hK a' w' (hs'.putF (i := 9) rfl [0] [] rfl rfl rfl rfl)
  ·intro L a w hv K Q hK
   have hs := hv
   refine wpOp_go rfl rfl hs (OpT_move rfl rfl rfl rfl) ?_
   rintro _ rfl a' w' hs'
   exact hK a' w' (hs'.putF (i := 10) rfl [0] [] rfl rfl rfl rfl)
  ·intro L a w hv K Q hK
   have hs := hv
   refine wpOp_go rfl rfl hs (OpT_move rfl rfl rfl rfl) ?_
   rintro _ rfl a' w' hs'
   exact hK a' w' (hs'.putF (i := 11) rfl [0] [] rfl rfl rfl rfl)
  ·intro L a w hv K Q hK
   have hs := hv
   refine wpOp_go rfl rfl hs (OpT_bin rfl rfl rfl rfl rfl (bin_mul_i (a := (8 : Int)) (b := x1))) ?_
   rintro _ rfl a' w' hs'
   exact hK a' w' (hs'.putF (i := 12) rfl [0] [] rfl rfl rfl rfl)
  ·intro L a w hv K Q hK
   have hs := hv
   refine wpOp_go rfl rfl hs (OpT_bin rfl rfl rfl rfl rfl (bin_shr_u64_i64 (a := vp3) (n := wi ((8 : Int) * x1)) hc1)) ?_
   rintro _ rfl a' w' hs'
   exact hK a' w' (hs'.putF (i := 13) rfl [0] [] rfl rfl rfl rfl)
  ·intro L a w hv K Q hK
   have hs := hv
   refine wpOp_go rfl rfl hs (OpT_cnv rfl rfl rfl rfl (cnv_u64_u8 (n := shr64 vp3 ((wi ((8 : Int) * x1)).toNat)) Try.underlying34 Try.underlying5)) ?_
   rintro _ rfl a' w' hs'
   exact hK a' w' (hs'.putF (i := 14) rfl [0] [] rfl rfl rfl rfl)
  ·intro L a w hv K Q hK
   have hs := hv
   refine wpOp_go rfl rfl hs (OpT_nilCheckP rfl rfl rfl rfl) ?_
   rintro _ rfl a' w' hs'
   exact hK a' w' (hs'.putF (i := 15) rfl [0] [] rfl rfl rfl rfl)
  ·intro L a w hL hv
   rw [allTrue hL] at hv
   have hs := hv
   refine (show TA _ _ _ 10 ⟨[(0, some (.pointer (some ⟨b_rp0, 0, none⟩))), (1, some (vI atp1)), (3, some (vU64 vp3)), (9, some (vI np2)), (10, some (vI x1)), (16, some (vI (wi (atp1 + x1)))), (21, some (vU8 ((shr64 vp3 ((wi ((8 : Int) * x1)).toNat)).toUInt8))), (22, some (.pointer (some ⟨b_rp0, 0, none⟩)))], [some (cellsR b_rp0 104 (m1.map vU8))], []⟩ from ?_) a w (hs.wkS [0, 1, 3, 9, 10, 16, 21, 22] [0] [] rfl rfl rfl rfl)
   clear hs hL
   obtain ⟨hc2, h⟩ := chk_e h
   refine TA_step htb (by kernel_rfl) rfl rfl (OpT_indexC rfl rfl rfl rfl rfl arrF104 hc2) ?_
   obtain ⟨hc3, h⟩ := chk_e h
   refine TA_step htb (by kernel_rfl) rfl rfl (OpT_storeLA (f := vU8) (u := (shr64 vp3 ((wi ((8 : Int) * x1)).toNat)).toUInt8) rfl rfl rfl rfl tyF5 (i := 0) rfl (fun _ => ⟨rfl, rfl⟩) hc3) ?_
   refine TA_end rfl ?_
   refine Tk_wkS (fr' := [(0, some (.pointer (some ⟨b_rp0, 0, none⟩))), (1, some (vI atp1)), (3, some (vU64 vp3)), (9, some (vI np2)), (10, some (vI x1))]) (own' := [some (cellsR b_rp0 104 ((m1.set (wi (atp1 + x1)).toNat ((shr64 vp3 ((wi ((8 : Int) * x1)).toNat)).toUInt8)).map vU8))]) (shr' := []) [0, 1, 3, 9, 10] [0] [] rfl rfl rfl rfl ?_
   refine Tk_blk (Tk_region (Tops_step rfl (OpT_bin rfl rfl rfl rfl rfl (bin_add_i (a := x1) (b := (1 : Int)))) ?_))
   refine Tops_step rfl (OpT_move rfl rfl rfl rfl) ?_
   refine Tops_nil (Tk_wkS (fr' := [(0, some (.pointer (some ⟨b_rp0, 0, none⟩))), (1, some (vI atp1)), (3, some (vU64 vp3)), (9, some (vI np2)), (10, some (vI (wi (x1 + (1 : Int)))))]) (own' := [some (cellsR b_rp0 104 ((m1.set (wi (atp1 + x1)).toNat ((shr64 vp3 ((wi ((8 : Int) * x1)).toNat)).toUInt8)).map vU8))]) (shr' := []) [0, 1, 3, 9, 10] [0] [] rfl rfl rfl rfl ?_)
   exact Tk_backS (m1.set (wi (atp1 + x1)).toNat ((shr64 vp3 ((wi ((8 : Int) * x1)).toNat)).toUInt8), wi (x1 + (1 : Int))) h [0, 1, 3, 9, 10] [0] [] rfl rfl rfl rfl rfl
 ·replace h := br_f hg1 h
  refine Tk_condF (congrArg (fun b => some (Value.bool b)) hg1) ?_
  refine Tk_exit _ rfl ?_
  obtain rfl := Option.some.inj h
  exact Tk_endV rfl rfl (resA (vs := []) rfl trivial) [0] [] rfl rfl rfl ⟨rfl, rfl, rfl⟩

set_option maxRecDepth 100000 in
set_option maxHeartbeats 4000000 in
theorem w_desc_Bytes {dp0 : Desc} {r : (List UInt8)} (h : desc_Bytes dp0 = some r) :
  Ctr Try.prog 59 #[.agg #[vU64 dp0.Addr, vU32 dp0.Len, vU16 dp0.Flags, vU16 dp0.Next]] [] []
   (fun rv own shr => ∃ (w1 : Value), rv = w1 ∧ own = [(rowS u8S w1 r)] ∧ shr = []) := by
 unfold desc_Bytes at h
 refine Ctr.mk (args := [.agg #[vU64 dp0.Addr, vU32 dp0.Len, vU16 dp0.Flags, vU16 dp0.Next]]) Try.func59 rfl rfl (fun R0 w0 B => ?_)
 refine Tk_seq (Tk_region (Tops_ex rfl (OpT_box rfl rfl rfl rfl) fun b1 => ?_))
 refine Tops_step rfl (OpT_assign rfl rfl rfl rfl) ?_
 refine Tops_nil (Tk_wkS (fr' := [(1, some (.pointer (some ⟨b1, 0, none⟩)))]) (own' := [some (cellsR b1 38 [vU64 dp0.Addr, vU32 dp0.Len, vU16 dp0.Flags, vU16 dp0.Next])]) (shr' := []) [1] [0] [] rfl rfl rfl rfl ?_)
 refine Tk_seq (Tk_region (Tops_ex rfl (OpT_alloc rfl rfl rfl tyZ104) fun b2 => ?_))
 refine Tops_nil (Tk_seq (Tk_region (Tops_step rfl (OpT_fieldC rfl rfl rfl rfl fldF38x0) ?_)))
 refine Tops_step rfl (OpT_loadC rfl rfl rfl rfl tyF34 (i := 0) rfl rfl) ?_
 obtain ⟨put1, hx1, h⟩ := ob_e h
 refine Tops_exP rfl (OpT_callP [0, 2] (w_desc_raw_put hx1) [1] [] rfl rfl rfl rfl rfl callee61 rfl rfl rfl rfl rfl) ?_
 rintro _ ⟨_, _, _, ⟨rfl, rfl, rfl⟩, rfl⟩
 refine Tops_nil (Tk_wkS (fr' := [(1, some (.pointer (some ⟨b1, 0, none⟩))), (3, some (.pointer (some ⟨b2, 0, none⟩)))]) (own' := [some (cellsR b1 38 [vU64 dp0.Addr, vU32 dp0.Len, vU16 dp0.Flags, vU16 dp0.Next]), some (cellsR b2 104 (put1.map vU8))]) (shr' := []) [1, 3] [0, 1] [] rfl rfl rfl rfl ?_)
 refine Tk_seq (Tk_region (Tops_step rfl (OpT_fieldC rfl rfl rfl rfl fldF38x1) ?_))
 refine Tops_step rfl (OpT_loadC rfl rfl rfl rfl tyF35 (i := 0) rfl rfl) ?_
 refine Tops_step rfl (OpT_cnv rfl rfl rfl rfl (cnv_u32_u64 (n := dp0.Len) Try.underlying35 Try.underlying34)) ?_
 obtain ⟨put2, hx2, h⟩ := ob_e h
 refine Tops_exP rfl (OpT_callP [0, 2] (w_desc_raw_put hx2) [1] [] rfl rfl rfl rfl rfl callee61 rfl rfl rfl rfl rfl) ?_
 rintro _ ⟨_, _, _, ⟨rfl, rfl, rfl⟩, rfl⟩
 refine Tops_nil (Tk_wkS (fr' := [(1, some (.pointer (some ⟨b1, 0, none⟩))), (3, some (.pointer (some ⟨b2, 0, none⟩)))]) (own' := [some (cellsR b1 38 [vU64 dp0.Addr, vU32 dp0.Len, vU16 dp0.Flags, vU16 dp0.Next]), some (cellsR b2 104 (put2.map vU8))]) (shr' := []) [1, 3] [0, 1] [] rfl rfl rfl rfl ?_)
 refine Tk_seq (Tk_region (Tops_step rfl (OpT_fieldC rfl rfl rfl rfl fldF38x2) ?_))
 refine Tops_step rfl (OpT_loadC rfl rfl rfl rfl tyF36 (i := 0) rfl rfl) ?_
 refine Tops_step rfl (OpT_cnv rfl rfl rfl rfl (cnv_u16_u64 (n := dp0.Flags) Try.underlying36 Try.underlying34)) ?_
 obtain ⟨put3, hx3, h⟩ := ob_e h
 refine Tops_exP rfl (OpT_callP [0, 2] (w_desc_raw_put hx3) [1] [] rfl rfl rfl rfl rfl callee61 rfl rfl rfl rfl rfl) ?_
 rintro _ ⟨_, _, _, ⟨rfl, rfl, rfl⟩, rfl⟩
 refine Tops_nil (Tk_wkS (fr' := [(1, some (.pointer (some ⟨b1, 0, none⟩))), (3, some (.pointer (some ⟨b2, 0, none⟩)))]) (own' := [some (cellsR b1 38 [vU64 dp0.Addr, vU32 dp0.Len, vU16 dp0.Flags, vU16 dp0.Next]), some (cellsR b2 104 (put3.map vU8))]) (shr' := []) [1, 3] [0, 1] [] rfl rfl rfl rfl ?_)
 refine Tk_seq (Tk_region (Tops_step rfl (OpT_fieldC rfl rfl rfl rfl fldF38x3) ?_))
 refine Tops_step rfl (OpT_loadC rfl rfl rfl rfl tyF36 (i := 0) rfl rfl) ?_
 refine Tops_step rfl (OpT_cnv rfl rfl rfl rfl (cnv_u16_u64 (n := dp0.Next) Try.underlying36 Try.underlying34)) ?_
 obtain ⟨put4, hx4, h⟩ := ob_e h
 refine Tops_exP rfl (OpT_callP [0, 2] (w_desc_raw_put hx4) [1] [] rfl rfl rfl rfl rfl callee61 rfl rfl rfl rfl rfl) ?_
 rintro _ ⟨_, _, _, ⟨rfl, rfl, rfl⟩, rfl⟩
 refine Tops_nil (Tk_wkS (fr' := [(3, some (.pointer (some ⟨b2, 0, none⟩)))]) (own' := [some (cellsR b2 104 (put4.map vU8))]) (shr' := []) [3] [1] [] rfl rfl rfl rfl ?_)
 refine Tk_seq (Tk_region (Tops_step rfl (OpT_sliceArr rfl rfl rfl rfl arrF104) ?_))
 refine Tops_step rfl (OpT_assign rfl rfl rfl rfl) ?_
 refine Tops_nil (Tk_wkS (fr' := [(2, some (.slice (some ⟨b2, 0, none⟩) 16 16))]) (own' := [some (cellsR b2 104 (put4.map vU8))]) (shr' := []) [2] [0] [] rfl rfl rfl rfl ?_)
 obtain ⟨hc1, h⟩ := chk_e h
 refine Tk_rowD u8S rfl (i := 0) (xs := put4) rfl (flat_one _) (len_of hc1) rfl ?_
 obtain rfl := Option.some.inj h
 exact Tk_retV rfl rfl (resA (vs := [.slice (some ⟨b2, 0, none⟩) 16 16]) rfl ⟨rfl, trivial⟩) [0] [] rfl rfl rfl ⟨(.slice (some ⟨b2, 0, none⟩) 16 16), rfl, rfl, rfl⟩

set_option maxRecDepth 100000 in
set_option maxHeartbeats 4000000 in
theorem w_desc_Table {l : List Desc} {vl1 : Value} {r : (List UInt8)} (h : desc_Table l = some r) :
  Ctr Try.prog 45 #[vl1] [] [Fact.sl DescS vl1 l]
   (fun rv own shr => ∃ (w1 : Value), rv = w1 ∧ own = [(rowS u8S w1 r)] ∧ shr = []) := by
 unfold desc_Table at h
 refine Ctr.mk (args := [vl1]) Try.func45 rfl rfl (fun R0 w0 B => ?_)
 refine Tk_seq (Tk_region (Tops_step rfl (OpT_assign rfl rfl rfl rfl) ?_))
 refine Tops_nil (Tk_seq (Tk_seq (Tk_region (Tops_step rfl (OpT_move rfl rfl rfl rfl) ?_))))
 refine Tops_step rfl (OpT_lenS rfl rfl rfl rfl Try.underlying55 (i := 0) rfl) ?_
 refine Tops_step rfl (OpT_move rfl rfl rfl rfl) ?_
 refine Tops_nil (Tk_wkS (fr' := [(2, some (.slice none 0 0)), (5, some (vl1)), (6, some (vI (len l))), (7, some (vI (0 : Int)))]) (own' := []) (shr' := [Fact.sl DescS vl1 l]) [2, 5, 6, 7] [] [0] rfl rfl rfl rfl ?_)
 refine Tk_block (Tk_nilrow u8S ?_)
 refine Tk_loopS (σ := (List UInt8) × Int × Value) [2, 5, 6, 7] [0] [0] (fun s => ⟨[(2, some (s.2.2)), (5, some (vl1)), (6, some (vI (len l))), (7, some (vI s.2.1))], [some (rowS u8S s.2.2 s.1)], [Fact.sl DescS vl1 l]⟩) (fun nf1 s => desc_TableL1 l nf1 s.1 s.2.1 = some r) fuel ([], (0 : Int), (.slice none 0 0)) h rfl rfl rfl rfl rfl (fun s h => by cases h) ?_
 rintro nf1 ⟨b1, x1, v1⟩ h
 replace h : desc_TableL1B l (desc_TableL1 l nf1) b1 x1 = some r := h
 unfold desc_TableL1B at h
 refine Tk_seq (Tk_region (Tops_step rfl (OpT_bin rfl rfl rfl rfl rfl (bin_lss_i (a := x1) (b := len l))) ?_))
 refine Tops_nil (Tk_seq ?_)
 rcases Bool.eq_false_or_eq_true (decide (x1 < (len l))) with hg1 | hg1
 ·replace h := br_t hg1 h
  refine Tk_condT (congrArg (fun b => some (Value.bool b)) hg1) ?_
  refine Tk_skip (Tk_seq (Tk_block (Tk_seq (Tk_region ?_))))
  obtain ⟨d1, hx1, h⟩ := ob_e h
  refine Tops_ex rfl (OpT_idxS rfl rfl rfl rfl rfl slF55 (i := 0) rfl hx1) fun p1 => ?_
  refine Tops_step rfl (OpT_loadPA (vs := [vU64 d1.Addr, vU32 d1.Len, vU16 d1.Flags, vU16 d1.Next]) rfl rfl rfl rfl tyF38 (i := 1) rfl rfl) ?_
  refine Tops_ex rfl (OpT_alloc rfl rfl rfl tyZ38) fun b2 => ?_
  refine Tops_step rfl (OpT_storeC (cs' := [vU64 d1.Addr, vU32 d1.Len, vU16 d1.Flags, vU16 d1.Next]) rfl rfl rfl rfl tyF38 (i := 1) rfl rfl rfl (one_of rfl) rfl) ?_
  refine Tops_nil (Tk_wkS (fr' := [(2, some (v1)), (5, some (vl1)), (6, some (vI (len l))), (7, some (vI x1)), (4, some (.pointer (some ⟨b2, 0, none⟩)))]) (own' := [some (rowS u8S v1 b1), some (cellsR b2 38 [vU64 d1.Addr, vU32 d1.Len, vU16 d1.Flags, vU16 d1.Next])]) (shr' := [Fact.sl DescS vl1 l]) [2, 5, 6, 7, 4] [0, 1] [0] rfl rfl rfl rfl ?_)
  refine Tk_region (Tops_step rfl (OpT_move rfl rfl rfl rfl) ?_)
  refine Tops_step rfl (OpT_loadCA (vs := [vU64 d1.Addr, vU32 d1.Len, vU16 d1.Flags, vU16 d1.Next]) rfl rfl rfl rfl tyF38 (i := 1) rfl rfl rfl) ?_
  obtain ⟨bytes1, hx2, h⟩ := ob_e h
  refine Tops_exP rfl (OpT_call (w_desc_Bytes hx2) [] [] rfl rfl rfl rfl rfl callee59 rfl rfl rfl rfl) ?_
  rintro _ ⟨v2, _, _, ⟨_, rfl, rfl, rfl⟩, rfl⟩
  obtain ⟨hc1, h⟩ := chk_e h
  refine Tops_ex rfl (OpT_appendB (S := u8S) rfl rfl rfl rfl rfl rfl slF49 (i := 0) (j := 2) rfl rfl hc1) fun v3 => ?_
  refine Tops_step rfl (OpT_assign rfl rfl rfl rfl) ?_
  refine Tops_nil (Tk_wkS (fr' := [(2, some (v3)), (5, some (vl1)), (6, some (vI (len l))), (7, some (vI x1))]) (own' := [some (rowS u8S v3 (b1 ++ bytes1))]) (shr' := [Fact.sl DescS vl1 l]) [2, 5, 6, 7] [0] [0] rfl rfl rfl rfl ?_)
  refine Tk_blk (Tk_region (Tops_step rfl (OpT_bin rfl rfl rfl rfl rfl (bin_add_i (a := x1) (b := (1 : Int)))) ?_))
  refine Tops_step rfl (OpT_move rfl rfl rfl rfl) ?_
  refine Tops_nil (Tk_wkS (fr' := [(2, some (v3)), (5, some (vl1)), (6, some (vI (len l))), (7, some (vI (wi (x1 + (1 : Int)))))]) (own' := [some (rowS u8S v3 (b1 ++ bytes1))]) (shr' := [Fact.sl DescS vl1 l]) [2, 5, 6, 7] [0] [0] rfl rfl rfl rfl ?_)
  exact Tk_backS (b1 ++ bytes1, wi (x1 + (1 : Int)), v3) h [2, 5, 6, 7] [0] [0] rfl rfl rfl rfl rfl
 ·replace h := br_f hg1 h
  refine Tk_condF (congrArg (fun b => some (Value.bool b)) hg1) ?_
  refine Tk_exit _ rfl ?_
  refine Tk_seq (Tk_region (Tops_step rfl (OpT_move rfl rfl rfl rfl) ?_))
  refine Tops_step rfl (OpT_assign rfl rfl rfl rfl) ?_
  refine Tops_nil (Tk_wkS (fr' := [(2, some (v1))]) (own' := [some (rowS u8S v1 b1)]) (shr' := []) [2] [0] [] rfl rfl rfl rfl ?_)
  obtain rfl := Option.some.inj h
  exact Tk_retV rfl rfl (resA (vs := [v1]) rfl ⟨rfl, trivial⟩) [0] [] rfl rfl rfl ⟨v1, rfl, rfl, rfl⟩

set_option maxRecDepth 100000 in
set_option maxHeartbeats 4000000 in
theorem w_build_SplitTable_1 {ip0 : Int} {r : build_split} (h : build_SplitTable_1 ip0 = some r) :
  Ctr Try.prog 44 #[vI ip0] [] []
   (fun rv own shr => rv = .agg #[vU64 r.Desc.Addr, vU32 r.Desc.Len, vU16 r.Desc.Flags, vU16 r.Desc.Next, vI r.next] ∧ own = [] ∧ shr = []) := by
 unfold build_SplitTable_1 at h
 refine Ctr.mk (args := [vI ip0]) Try.func44 rfl rfl (fun R0 w0 B => ?_)
 refine Tk_seq (Tk_region (Tops_ex rfl (OpT_alloc rfl rfl rfl tyZ78) fun b1 => ?_))
 refine Tops_nil (Tk_seq (Tk_region (Tops_step rfl (OpT_move rfl rfl rfl rfl) ?_)))
 refine Tops_step rfl (OpT_bin rfl rfl rfl rfl rfl (bin_add_i (a := ip0) (b := (1 : Int)))) ?_
 refine Tops_step rfl (OpT_build (v := .agg #[vU64 (0 : UInt64), vU32 (0 : UInt32), vU16 (0 : UInt16), vU16 (0 : UInt16), vI (wi (ip0 + (1 : Int)))]) rfl rfl rfl rfl (bldV (by kernel_rfl))) ?_
 refine Tops_step rfl (OpT_storeC (cs' := [vU64 (0 : UInt64), vU32 (0 : UInt32), vU16 (0 : UInt16), vU16 (0 : UInt16), vI (wi (ip0 + (1 : Int)))]) rfl rfl rfl rfl tyF78 (i := 0) rfl rfl rfl (one_of rfl) rfl) ?_
 refine Tops_nil (Tk_wkS (fr' := [(2, some (.pointer (some ⟨b1, 0, none⟩)))]) (own' := [some (cellsR b1 78 [vU64 (0 : UInt64), vU32 (0 : UInt32), vU16 (0 : UInt16), vU16 (0 : UInt16), vI (wi (ip0 + (1 : Int)))])]) (shr' := []) [2] [0] [] rfl rfl rfl rfl ?_)
 obtain rfl := Option.some.inj h
 exact Tk_retV rfl rfl (resA (vs := [.agg #[vU64 (0 : UInt64), vU32 (0 : UInt32), vU16 (0 : UInt16), vU16 (0 : UInt16), vI (wi (ip0 + (1 : Int)))]]) rfl ⟨⟨_, 0, _, _, _, rfl, rfl, .inl ⟨tyF78, rfl, rfl⟩⟩, trivial⟩) [] [] rfl rfl rfl ⟨rfl, rfl, rfl⟩

set_option maxRecDepth 100000 in
set_option maxHeartbeats 4000000 in
theorem w_build_SplitTable {l : List Seg} {vl1 : Value} {r : ((List UInt8) × Int)} (h : build_SplitTable l = some r) :
  Ctr Try.prog 12 #[vl1] [] [Fact.sl SegS vl1 l]
   (fun rv own shr => ∃ (w1 : Value), rv = .tuple #[w1, vI r.2] ∧ own = [(rowS u8S w1 r.1)] ∧ shr = []) := by
 unfold build_SplitTable at h
 refine Ctr.mk (args := [vl1]) Try.func12 rfl rfl (fun R0 w0 B => ?_)
 refine Tk_seq (Tk_region (Tops_step rfl (OpT_assign rfl rfl rfl rfl) ?_))
 refine Tops_step rfl (OpT_assign rfl rfl rfl rfl) ?_
 refine Tops_nil (Tk_wkS (fr' := [(0, some (vl1))]) (own' := []) (shr' := [Fact.sl SegS vl1 l]) [0] [] [0] rfl rfl rfl rfl ?_)
 refine Tk_seq (Tk_seq (Tk_region (Tops_step rfl (OpT_move rfl rfl rfl rfl) ?_)))
 obtain ⟨buffer1, hx1, h⟩ := ob_e h
 refine Tops_exP rfl (OpT_call (w_build_buffer hx1) [] [0] rfl rfl rfl rfl rfl callee32 rfl rfl rfl rfl) ?_
 rintro _ ⟨v1, _, _, ⟨_, rfl, rfl, rfl⟩, rfl⟩
 refine Tops_ex rfl (OpT_buildOne fnS71 (vs := [v1]) (xs := [buffer1]) rfl rfl rfl rfl rfl slF98 rfl rfl rfl (rel_cons (rel_fn (i := 1) rfl) (rel_nil rfl))) fun v2 => ?_
 obtain ⟨first1, hx2, h⟩ := ob_e h
 refine Tops_exP rfl (OpT_callB [0] [0] (w_build_first hx2) [] rfl rfl rfl rfl rfl callee31 rfl rfl rfl rfl rfl rfl (bor_cons (bor_row 0 rfl rfl) bor_nil) (by rintro _ _ _ ⟨rfl, rfl, rfl⟩; exact ⟨rfl, ri_nil⟩)) ?_
 rintro _ ⟨_, _, _, ⟨rfl, rfl, rfl⟩, rfl⟩
 refine Tops_step rfl (OpT_assign rfl rfl rfl rfl) ?_
 refine Tops_nil (Tk_wkS (fr' := [(0, some (vl1)), (4, some (vI first1))]) (own' := []) (shr' := [Fact.sl SegS vl1 l]) [0, 4] [] [0] rfl rfl rfl rfl ?_)
 refine Tk_seq (Tk_region (Tops_step rfl (OpT_move rfl rfl rfl rfl) ?_))
 refine Tops_step rfl (OpT_bin rfl rfl rfl rfl rfl (bin_neq_i (a := first1) (b := (0 : Int)))) ?_
 refine Tops_nil (Tk_wkS (fr' := [(0, some (vl1)), (4, some (vI first1)), (13, some (vB (first1 != (0 : Int))))]) (own' := []) (shr' := [Fact.sl SegS vl1 l]) [0, 4, 13] [] [0] rfl rfl rfl rfl ?_)
 rcases Bool.eq_false_or_eq_true (first1 != (0 : Int)) with hg1 | hg1
 ·replace h := br_t hg1 h
  refine Tk_condT (congrArg (fun b => some (Value.bool b)) hg1) ?_
  refine Tk_seq (Tk_region (Tops_step rfl (OpT_move rfl rfl rfl rfl) ?_))
  refine Tops_step rfl (OpT_assign rfl rfl rfl rfl) ?_
  refine Tops_step rfl (OpT_assign rfl rfl rfl rfl) ?_
  refine Tops_nil (Tk_wkS (fr' := [(2, some (.slice none 0 0)), (3, some (vI first1))]) (own' := []) (shr' := []) [2, 3] [] [] rfl rfl rfl rfl ?_)
  refine Tk_nilrow u8S ?_
  obtain rfl := Option.some.inj h
  exact Tk_retV rfl rfl (resA (vs := [.slice none 0 0, vI first1]) rfl ⟨rfl, rfl, trivial⟩) [0] [] rfl rfl rfl ⟨(.slice none 0 0), rfl, rfl, rfl⟩
 ·replace h := br_f hg1 h
  refine Tk_condF (congrArg (fun b => some (Value.bool b)) hg1) ?_
  refine Tk_skip (Tk_seq (Tk_region (Tops_step rfl (OpT_assign rfl rfl rfl rfl) ?_)))
  refine Tops_nil (Tk_wkS (fr' := [(0, some (vl1)), (5, some (.slice none 0 0))]) (own' := []) (shr' := [Fact.sl SegS vl1 l]) [0, 5] [] [0] rfl rfl rfl rfl ?_)
  refine Tk_seq (Tk_seq (Tk_region (Tops_step rfl (OpT_move rfl rfl rfl rfl) ?_)))
  refine Tops_vs (vs_add (Fact.fn Try.prog (fun (x : Int) => [vI x]) (fun (x : build_split) => .agg #[vU64 x.Desc.Addr, vU32 x.Desc.Len, vU16 x.Desc.Flags, vU16 x.Desc.Next, vI x.next]) (.func (.func 44) #[] #[]) (fun x => build_SplitTable_1 x)) (fun R hF => ⟨rfl, fun x r hx => ⟨44, [], [], rfl, callee44, fal_nil, w_build_SplitTable_1 hx⟩⟩)) ?_
  obtain ⟨split1, hx3, h⟩ := ob_e h
  refine Tops_exP rfl (OpT_call (w_build_chain_buildsplit hx3) [] [0, 1] rfl rfl rfl rfl rfl callee35 rfl rfl rfl rfl) ?_
  rintro _ ⟨v3, _, _, ⟨_, rfl, rfl, rfl⟩, rfl⟩
  refine Tops_step rfl (OpT_lenO rfl rfl rfl rfl Try.underlying75 (i := 0) rfl) ?_
  refine Tops_step rfl (OpT_move rfl rfl rfl rfl) ?_
  refine Tops_nil (Tk_wkS (fr' := [(5, some (.slice none 0 0)), (16, some (v3)), (17, some (vI (len split1))), (18, some (vI (0 : Int)))]) (own' := [some (rowS build_splitS v3 split1)]) (shr' := []) [5, 16, 17, 18] [0] [] rfl rfl rfl rfl ?_)
  refine Tk_block (Tk_nilrow DescS ?_)
  refine Tk_loopS (σ := (List Desc) × (List build_split) × Int × Value × Value) [5, 16, 17, 18] [1, 0] [] (fun s => ⟨[(5, some (s.2.2.2.1)), (16, some (s.2.2.2.2)), (17, some (vI (len split1))), (18, some (vI s.2.2.1))], [some (rowS DescS s.2.2.2.1 s.1), some (rowS build_splitS s.2.2.2.2 s.2.1)], []⟩) (fun nf1 s => build_SplitTableL1 split1 nf1 s.1 s.2.1 s.2.2.1 = some r) fuel ([], split1, (0 : Int), (.slice none 0 0), v3) h rfl rfl rfl rfl rfl (fun s h => by cases h) ?_
  rintro nf1 ⟨out1, l1, x1, v4, v5⟩ h
  replace h : build_SplitTableL1B split1 (build_SplitTableL1 split1 nf1) out1 l1 x1 = some r := h
  unfold build_SplitTableL1B at h
  refine Tk_seq (Tk_region (Tops_step rfl (OpT_bin rfl rfl rfl rfl rfl (bin_lss_i (a := x1) (b := len split1))) ?_))
  refine Tops_nil (Tk_seq ?_)
  rcases Bool.eq_false_or_eq_true (decide (x1 < (len split1))) with hg2 | hg2
  ·replace h := br_t hg2 h
   refine Tk_condT (congrArg (fun b => some (Value.bool b)) hg2) ?_
   refine Tk_skip (Tk_seq (Tk_block (Tk_seq (Tk_region ?_))))
   obtain ⟨b1, hx4, h⟩ := ob_e h
   refine Tops_step rfl (OpT_idxO rfl rfl rfl rfl rfl slF75 (i := 1) rfl hx4) ?_
   refine Tops_step rfl (OpT_loadOA (S := build_splitS) (vs := [vU64 b1.Desc.Addr, vU32 b1.Desc.Len, vU16 b1.Desc.Flags, vU16 b1.Desc.Next, vI b1.next]) rfl rfl rfl rfl rfl tyF78 (i := 1) rfl hx4 rfl) ?_
   refine Tops_ex rfl (OpT_alloc rfl rfl rfl tyZ78) fun b2 => ?_
   refine Tops_step rfl (OpT_storeC (cs' := [vU64 b1.Desc.Addr, vU32 b1.Desc.Len, vU16 b1.Desc.Flags, vU16 b1.Desc.Next, vI b1.next]) rfl rfl rfl rfl tyF78 (i := 2) rfl rfl rfl (one_of rfl) rfl) ?_
   refine Tops_nil (Tk_wkS (fr' := [(5, some (v4)), (16, some (v5)), (17, some (vI (len split1))), (18, some (vI x1)), (7, some (.pointer (some ⟨b2, 0, none⟩)))]) (own' := [some (rowS DescS v4 out1), some (rowS build_splitS v5 l1), some (cellsR b2 78 [vU64 b1.Desc.Addr, vU32 b1.Desc.Len, vU16 b1.Desc.Flags, vU16 b1.Desc.Next, vI b1.next])]) (shr' := []) [5, 16, 17, 18, 7] [0, 1, 2] [] rfl rfl rfl rfl ?_)
   refine Tk_region (Tops_step rfl (OpT_move rfl rfl rfl rfl) ?_)
   refine Tops_step rfl (OpT_fieldC rfl rfl rfl rfl fldF78x0) ?_
   refine Tops_step rfl (OpT_loadCA (vs := [vU64 b1.Desc.Addr, vU32 b1.Desc.Len, vU16 b1.Desc.Flags, vU16 b1.Desc.Next]) rfl rfl rfl rfl tyF38 (i := 2) rfl rfl rfl) ?_
   refine Tops_ex rfl (OpT_buildSlice (S := DescS) (xs := [b1.Desc]) (css := [[vU64 b1.Desc.Addr, vU32 b1.Desc.Len, vU16 b1.Desc.Flags, vU16 b1.Desc.Next]]) (cs := [vU64 b1.Desc.Addr, vU32 b1.Desc.Len, vU16 b1.Desc.Flags, vU16 b1.Desc.Next]) (e := 38) rfl rfl rfl rfl (bldF slF55 (by decide) (by kernel_rfl)) rfl rfl rfl rfl (rel_plainD (S := DescS) (xs := [b1.Desc]) (css := [[vU64 b1.Desc.Addr, vU32 b1.Desc.Len, vU16 b1.Desc.Flags, vU16 b1.Desc.Next]]) rfl rfl)) fun v6 => ?_
   obtain ⟨hc1, h⟩ := chk_e h
   refine Tops_ex rfl (OpT_appendB (S := DescS) rfl rfl rfl rfl rfl rfl slF55 (i := 0) (j := 3) rfl rfl hc1) fun v7 => ?_
   refine Tops_step rfl (OpT_assign rfl rfl rfl rfl) ?_
   refine Tops_nil (Tk_wkS (fr' := [(5, some (v7)), (16, some (v5)), (17, some (vI (len split1))), (18, some (vI x1))]) (own' := [some (rowS DescS v7 (out1 ++ [b1.Desc])), some (rowS build_splitS v5 l1)]) (shr' := []) [5, 16, 17, 18] [0, 1] [] rfl rfl rfl rfl ?_)
   refine Tk_blk (Tk_region (Tops_step rfl (OpT_bin rfl rfl rfl rfl rfl (bin_add_i (a := x1) (b := (1 : Int)))) ?_))
   refine Tops_step rfl (OpT_move rfl rfl rfl rfl) ?_
   refine Tops_nil (Tk_wkS (fr' := [(5, some (v7)), (16, some (v5)), (17, some (vI (len split1))), (18, some (vI (wi (x1 + (1 : Int)))))]) (own' := [some (rowS DescS v7 (out1 ++ [b1.Desc])), some (rowS build_splitS v5 l1)]) (shr' := []) [5, 16, 17, 18] [0, 1] [] rfl rfl rfl rfl ?_)
   exact Tk_backS (out1 ++ [b1.Desc], l1, wi (x1 + (1 : Int)), v7, v5) h [5, 16, 17, 18] [0, 1] [] rfl rfl rfl rfl rfl
  ·replace h := br_f hg2 h
   refine Tk_condF (congrArg (fun b => some (Value.bool b)) hg2) ?_
   refine Tk_exit _ rfl ?_
   refine Tk_seq (Tk_region (Tops_step rfl (OpT_move rfl rfl rfl rfl) ?_))
   obtain ⟨table1, hx5, h⟩ := ob_e h
   refine Tops_exP rfl (OpT_callB [0] [0, 1, 2] (w_desc_Table hx5) [] rfl rfl rfl rfl rfl callee45 rfl rfl rfl rfl rfl rfl (bor_cons (bor_row 0 rfl rfl) bor_nil) (by rintro _ _ _ ⟨_, rfl, rfl, rfl⟩; exact ⟨rfl, (ri_cons (ri_row (S := u8S) rfl _ _) ri_nil)⟩)) ?_
   rintro _ ⟨v8, _, _, ⟨_, rfl, rfl, rfl⟩, rfl⟩
   refine Tops_step rfl (OpT_assign rfl rfl rfl rfl) ?_
   refine Tops_step rfl (OpT_assign rfl rfl rfl rfl) ?_
   refine Tops_nil (Tk_wkS (fr' := [(2, some (v8)), (3, some (vI (0 : Int)))]) (own' := [some (rowS u8S v8 table1)]) (shr' := []) [2, 3] [2] [] rfl rfl rfl rfl ?_)
   obtain rfl := Option.some.inj h
   exact Tk_retV rfl rfl (resA (vs := [v8, vI (0 : Int)]) rfl ⟨rfl, rfl, trivial⟩) [0] [] rfl rfl rfl ⟨v8, rfl, rfl, rfl⟩

set_option maxRecDepth 100000 in
set_option maxHeartbeats 4000000 in
theorem w_kit_SamePuts {ap0 : List Put} {b : List Put} {vap01 : Value} {vb1 : Value} {r : Bool} (h : kit_SamePuts ap0 b = some r) :
  Ctr Try.prog 24 #[vap01, vb1] [] [Fact.sl PutS vap01 ap0, Fact.sl PutS vb1 b]
   (fun rv own shr => rv = vB r ∧ own = [] ∧ shr = []) := by
 unfold kit_SamePuts at h
 refine Ctr.mk (args := [vap01, vb1]) Try.func24 rfl rfl (fun R0 w0 B => ?_)
 refine Tk_seq (Tk_region (Tops_step rfl (OpT_assign rfl rfl rfl rfl) ?_))
 refine Tops_nil (Tk_wkS (fr' := [(0, some (vap01)), (1, some (vb1))]) (own' := []) (shr' := [Fact.sl PutS vap01 ap0, Fact.sl PutS vb1 b]) [0, 1] [] [0, 1] rfl rfl rfl rfl ?_)
 refine Tk_seq (Tk_seq (Tk_region (Tops_step rfl (OpT_move rfl rfl rfl rfl) ?_)))
 refine Tops_step rfl (OpT_lenS rfl rfl rfl rfl Try.underlying22 (i := 0) rfl) ?_
 refine Tops_step rfl (OpT_move rfl rfl rfl rfl) ?_
 refine Tops_step rfl (OpT_lenS rfl rfl rfl rfl Try.underlying22 (i := 1) rfl) ?_
 refine Tops_step rfl (OpT_bin rfl rfl rfl rfl rfl (bin_neq_i (a := len ap0) (b := len b))) ?_
 refine Tops_nil (Tk_wkS (fr' := [(0, some (vap01)), (1, some (vb1)), (10, some (vB ((len ap0) != (len b))))]) (own' := []) (shr' := [Fact.sl PutS vap01 ap0, Fact.sl PutS vb1 b]) [0, 1, 10] [] [0, 1] rfl rfl rfl rfl ?_)
 rcases Bool.eq_false_or_eq_true ((len ap0) != (len b)) with hg1 | hg1
 ·replace h := br_t hg1 h
  refine Tk_condT (congrArg (fun b => some (Value.bool b)) hg1) ?_
  refine Tk_seq (Tk_region (Tops_step rfl (OpT_assign rfl rfl rfl rfl) ?_))
  refine Tops_nil (Tk_wkS (fr' := [(4, some (vB false))]) (own' := []) (shr' := []) [4] [] [] rfl rfl rfl rfl ?_)
  obtain rfl := Option.some.inj h
  exact Tk_retV rfl rfl (resA (vs := [vB false]) rfl ⟨rfl, trivial⟩) [] [] rfl rfl rfl ⟨rfl, rfl, rfl⟩
 ·replace h := br_f hg1 h
  refine Tk_condF (congrArg (fun b => some (Value.bool b)) hg1) ?_
  refine Tk_skip (Tk_seq (Tk_seq (Tk_region (Tops_step rfl (OpT_assign rfl rfl rfl rfl) ?_))))
  refine Tops_nil (Tk_wkS (fr' := [(0, some (vap01)), (1, some (vb1)), (5, some (vI (0 : Int)))]) (own' := []) (shr' := [Fact.sl PutS vap01 ap0, Fact.sl PutS vb1 b]) [0, 1, 5] [] [0, 1] rfl rfl rfl rfl ?_)
  refine Tk_block (Tk_loopS (σ := Int) [0, 1, 5] [] [0, 1] (fun s => ⟨[(0, some (vap01)), (1, some (vb1)), (5, some (vI s))], [], [Fact.sl PutS vap01 ap0, Fact.sl PutS vb1 b]⟩) (fun nf1 s => kit_SamePutsL1 ap0 b nf1 s = some r) fuel (0 : Int) h rfl rfl rfl rfl rfl (fun s h => by cases h) ?_)
  rintro nf1 i1 h
  replace h : kit_SamePutsL1B ap0 b (kit_SamePutsL1 ap0 b nf1) i1 = some r := h
  unfold kit_SamePutsL1B at h
  refine Tk_seq (Tk_seq (Tk_region (Tops_step rfl (OpT_move rfl rfl rfl rfl) ?_)))
  refine Tops_step rfl (OpT_move rfl rfl rfl rfl) ?_
  refine Tops_step rfl (OpT_lenS rfl rfl rfl rfl Try.underlying22 (i := 0) rfl) ?_
  refine Tops_step rfl (OpT_bin rfl rfl rfl rfl rfl (bin_lss_i (a := i1) (b := len ap0))) ?_
  refine Tops_nil (Tk_wkS (fr' := [(0, some (vap01)), (1, some (vb1)), (5, some (vI i1)), (14, some (vB (decide (i1 < (len ap0)))))]) (own' := []) (shr' := [Fact.sl PutS vap01 ap0, Fact.sl PutS vb1 b]) [0, 1, 5, 14] [] [0, 1] rfl rfl rfl rfl ?_)
  rcases Bool.eq_false_or_eq_true (decide (i1 < (len ap0))) with hg2 | hg2
  ·replace h := br_t hg2 h
   refine Tk_condT (congrArg (fun b => some (Value.bool b)) hg2) ?_
   refine Tk_skip (Tk_seq (Tk_block (Tk_seq (Tk_drawT (by kernel_rfl) ?_))))
   refine TA_tb [0, 0, 3, 7, 0, 0, 48, 112, 255] (by kernel_rfl) fun htb => ?_
   refine TA_wkS (fr' := [(0, some (vap01)), (1, some (vb1)), (5, some (vI i1))]) (own' := []) (shr' := [Fact.sl PutS vap01 ap0, Fact.sl PutS vb1 b]) [0, 1, 5] [] [0, 1] rfl rfl rfl rfl ?_
   obtain ⟨p1, hx1, h⟩ := ob_e h
   obtain ⟨p3, hx2, h⟩ := ob_e h
   refine TA_seg (lo := 0) (hi := 8) htb rfl rfl (by kernel_rfl) (fun c L a w => ∃ (p2 : Value), ∃ (p4 : Value), Sat c ⟨[(0, some (vap01)), (1, some (vb1)), (5, some (vI i1)), (17, bif L 0 then some (vap01) else none), (18, bif L 1 then some (vI i1) else none), (19, bif L 2 then some (p2) else none), (20, bif L 3 then some (.agg #[vI p1.At, vU64 p1.Desc.Addr, vU32 p1.Desc.Len, vU16 p1.Desc.Flags, vU16 p1.Desc.Next]) else none), (21, bif L 4 then some (vb1) else none), (22, bif L 5 then some (vI i1) else none), (23, bif L 6 then some (p4) else none), (24, bif L 7 then some (.agg #[vI p3.At, vU64 p3.Desc.Addr, vU32 p3.Desc.Len, vU16 p3.Desc.Flags, vU16 p3.Desc.Next]) else none)], [], [Fact.sl PutS vap01 ap0, Fact.sl PutS vb1 b, (bif L 2 then Fact.pt PutS p2 p1 else Fact.tt), (bif L 6 then Fact.pt PutS p4 p3 else Fact.tt)]⟩ a w) [([], [2, 3]), ([], [2, 3]), ([0, 1], [3]), ([0, 1, 2], []), ([], [6, 7]), ([], [6, 7]), ([4, 5], [7]), ([4, 5, 6], [])] rfl (by kernel_rfl) ?_ (steps_cons ?_ (steps_cons ?_ (steps_cons ?_ (steps_cons ?_ (steps_cons ?_ (steps_cons ?_ (steps_cons ?_ (steps_cons ?_ (steps_nil))))))))) ?_
   ·intro a w hs
    exact ⟨undef, undef, hs.startF [17, 18, 19, 20, 21, 22, 23, 24] [] [0, 1, 2, 3] rfl rfl rfl rfl⟩
   ·intro L a w hv K Q hK
    obtain ⟨p2, p4, hs⟩ := hv
    refine wpOp_go rfl rfl hs (OpT_move rfl rfl rfl rfl) ?_
    rintro _ rfl a' w' hs'
    exact hK a' w' ⟨p2, p4, hs'.putF (i := 3) rfl [] [0, 1, 2, 3] rfl rfl rfl rfl⟩
   ·intro L a w hv K Q hK
    obtain ⟨p2, p4, hs⟩ := hv
    refine wpOp_go rfl rfl hs (OpT_move rfl rfl rfl rfl) ?_
    rintro _ rfl a' w' hs'
    exact hK a' w' ⟨p2, p4, hs'.putF (i := 4) rfl [] [0, 1, 2, 3] rfl rfl rfl rfl⟩
   ·intro L a w hv K Q hK
    obtain ⟨p2, p4, hs⟩ := hv
    refine wpOp_go rfl rfl hs (OpT_idxS rfl rfl rfl rfl rfl slF22 (i := 0) rfl hx1) ?_
    rintro _ ⟨p2', rfl⟩ a' w' hs'
    exact hK a' w' ⟨p2', p4, hs'.putF (i := 5) rfl [] [0, 1, 4, 3] rfl rfl rfl rfl⟩
   ·intro L a w hv K Q hK
    obtain ⟨p2, p4, hs⟩ := hv
    refine wpOp_go rfl rfl hs (OpT_loadPA (vs := [vI p1.At, vU64 p1.Desc.Addr, vU32 p1.Desc.Len, vU16 p1.Desc.Flags, vU16 p1.Desc.Next]) rfl rfl rfl rfl tyF40 (i := 2) rfl rfl) ?_
    rintro _ rfl a' w' hs'
    exact hK a' w' ⟨p2, p4, hs'.putF (i := 6) rfl [] [0, 1, 2, 3] rfl rfl rfl rfl⟩
   ·intro L a w hv K Q hK
    obtain ⟨p2, p4, hs⟩ := hv
    refine wpOp_go rfl rfl hs (OpT_move rfl rfl rfl rfl) ?_
    rintro _ rfl a' w' hs'
    exact hK a' w' ⟨p2, p4, hs'.putF (i := 7) rfl [] [0, 1, 2, 3] rfl rfl rfl rfl⟩
   ·intro L a w hv K Q hK
    obtain ⟨p2, p4, hs⟩ := hv
    refine wpOp_go rfl rfl hs (OpT_move rfl rfl rfl rfl) ?_
    rintro _ rfl a' w' hs'
    exact hK a' w' ⟨p2, p4, hs'.putF (i := 8) rfl [] [0, 1, 2, 3] rfl rfl rfl rfl⟩
   ·intro L a w hv K Q hK
    obtain ⟨p2, p4, hs⟩ := hv
    refine wpOp_go rfl rfl hs (OpT_idxS rfl rfl rfl rfl rfl slF22 (i := 1) rfl hx2) ?_
    rintro _ ⟨p4', rfl⟩ a' w' hs'
    exact hK a' w' ⟨p2, p4', hs'.putF (i := 9) rfl [] [0, 1, 2, 4] rfl rfl rfl rfl⟩
   ·intro L a w hv K Q hK
    obtain ⟨p2, p4, hs⟩ := hv
    refine wpOp_go rfl rfl hs (OpT_loadPA (vs := [vI p3.At, vU64 p3.Desc.Addr, vU32 p3.Desc.Len, vU16 p3.Desc.Flags, vU16 p3.Desc.Next]) rfl rfl rfl rfl tyF40 (i := 3) rfl rfl) ?_
    rintro _ rfl a' w' hs'
    exact hK a' w' ⟨p2, p4, hs'.putF (i := 10) rfl [] [0, 1, 2, 3] rfl rfl rfl rfl⟩
   ·intro L a w hL hv
    rw [allTrue hL] at hv
    obtain ⟨p2, p4, hs⟩ := hv
    refine (show TA _ _ _ 8 ⟨[(0, some (vap01)), (1, some (vb1)), (5, some (vI i1)), (20, some (.agg #[vI p1.At, vU64 p1.Desc.Addr, vU32 p1.Desc.Len, vU16 p1.Desc.Flags, vU16 p1.Desc.Next])), (24, some (.agg #[vI p3.At, vU64 p3.Desc.Addr, vU32 p3.Desc.Len, vU16 p3.Desc.Flags, vU16 p3.Desc.Next]))], [], [Fact.sl PutS vap01 ap0, Fact.sl PutS vb1 b]⟩ from ?_) a w (hs.wkS [0, 1, 5, 20, 24] [] [0, 1] rfl rfl rfl rfl)
    clear hs hL
    refine TA_step htb (by kernel_rfl) rfl rfl (OpT_bin rfl rfl rfl rfl rfl (eqT40_neq p1 p3)) ?_
    refine TA_end rfl ?_
    refine Tk_wkS (fr' := [(0, some (vap01)), (1, some (vb1)), (5, some (vI i1)), (25, some (vB (p1 != p3)))]) (own' := []) (shr' := [Fact.sl PutS vap01 ap0, Fact.sl PutS vb1 b]) [0, 1, 5, 25] [] [0, 1] rfl rfl rfl rfl ?_
    rcases Bool.eq_false_or_eq_true (p1 != p3) with hg3 | hg3
    ·replace h := br_t hg3 h
     refine Tk_condT (congrArg (fun b => some (Value.bool b)) hg3) ?_
     refine Tk_seq (Tk_region (Tops_step rfl (OpT_assign rfl rfl rfl rfl) ?_))
     refine Tops_nil (Tk_wkS (fr' := [(4, some (vB false))]) (own' := []) (shr' := []) [4] [] [] rfl rfl rfl rfl ?_)
     obtain rfl := Option.some.inj h
     exact Tk_retV rfl rfl (resA (vs := [vB false]) rfl ⟨rfl, trivial⟩) [] [] rfl rfl rfl ⟨rfl, rfl, rfl⟩
    ·replace h := br_f hg3 h
     refine Tk_condF (congrArg (fun b => some (Value.bool b)) hg3) ?_
     refine Tk_skip (Tk_blk (Tk_region (Tops_step rfl (OpT_move rfl rfl rfl rfl) ?_)))
     refine Tops_step rfl (OpT_bin rfl rfl rfl rfl rfl (bin_add_i (a := i1) (b := (1 : Int)))) ?_
     refine Tops_step rfl (OpT_assign rfl rfl rfl rfl) ?_
     refine Tops_nil (Tk_wkS (fr' := [(0, some (vap01)), (1, some (vb1)), (5, some (vI (wi (i1 + (1 : Int)))))]) (own' := []) (shr' := [Fact.sl PutS vap01 ap0, Fact.sl PutS vb1 b]) [0, 1, 5] [] [0, 1] rfl rfl rfl rfl ?_)
     exact Tk_backS (wi (i1 + (1 : Int))) h [0, 1, 5] [] [0, 1] rfl rfl rfl rfl rfl
  ·replace h := br_f hg2 h
   refine Tk_condF (congrArg (fun b => some (Value.bool b)) hg2) ?_
   refine Tk_exit _ rfl ?_
   refine Tk_seq (Tk_region (Tops_step rfl (OpT_assign rfl rfl rfl rfl) ?_))
   refine Tops_nil (Tk_wkS (fr' := [(4, some (vB true))]) (own' := []) (shr' := []) [4] [] [] rfl rfl rfl rfl ?_)
   obtain rfl := Option.some.inj h
   exact Tk_retV rfl rfl (resA (vs := [vB true]) rfl ⟨rfl, trivial⟩) [] [] rfl rfl rfl ⟨rfl, rfl, rfl⟩

set_option maxRecDepth 100000 in
set_option maxHeartbeats 4000000 in
theorem w_kit_SamePacked {ap0 : List PutPacked} {b : List PutPacked} {vap01 : Value} {vb1 : Value} {r : Bool} (h : kit_SamePacked ap0 b = some r) :
  Ctr Try.prog 25 #[vap01, vb1] [] [Fact.sl PutPackedS vap01 ap0, Fact.sl PutPackedS vb1 b]
   (fun rv own shr => rv = vB r ∧ own = [] ∧ shr = []) := by
 unfold kit_SamePacked at h
 refine Ctr.mk (args := [vap01, vb1]) Try.func25 rfl rfl (fun R0 w0 B => ?_)
 refine Tk_seq (Tk_region (Tops_step rfl (OpT_assign rfl rfl rfl rfl) ?_))
 refine Tops_nil (Tk_wkS (fr' := [(0, some (vap01)), (1, some (vb1))]) (own' := []) (shr' := [Fact.sl PutPackedS vap01 ap0, Fact.sl PutPackedS vb1 b]) [0, 1] [] [0, 1] rfl rfl rfl rfl ?_)
 refine Tk_seq (Tk_seq (Tk_region (Tops_step rfl (OpT_move rfl rfl rfl rfl) ?_)))
 refine Tops_step rfl (OpT_lenS rfl rfl rfl rfl Try.underlying29 (i := 0) rfl) ?_
 refine Tops_step rfl (OpT_move rfl rfl rfl rfl) ?_
 refine Tops_step rfl (OpT_lenS rfl rfl rfl rfl Try.underlying29 (i := 1) rfl) ?_
 refine Tops_step rfl (OpT_bin rfl rfl rfl rfl rfl (bin_neq_i (a := len ap0) (b := len b))) ?_
 refine Tops_nil (Tk_wkS (fr' := [(0, some (vap01)), (1, some (vb1)), (10, some (vB ((len ap0) != (len b))))]) (own' := []) (shr' := [Fact.sl PutPackedS vap01 ap0, Fact.sl PutPackedS vb1 b]) [0, 1, 10] [] [0, 1] rfl rfl rfl rfl ?_)
 rcases Bool.eq_false_or_eq_true ((len ap0) != (len b)) with hg1 | hg1
 ·replace h := br_t hg1 h
  refine Tk_condT (congrArg (fun b => some (Value.bool b)) hg1) ?_
  refine Tk_seq (Tk_region (Tops_step rfl (OpT_assign rfl rfl rfl rfl) ?_))
  refine Tops_nil (Tk_wkS (fr' := [(4, some (vB false))]) (own' := []) (shr' := []) [4] [] [] rfl rfl rfl rfl ?_)
  obtain rfl := Option.some.inj h
  exact Tk_retV rfl rfl (resA (vs := [vB false]) rfl ⟨rfl, trivial⟩) [] [] rfl rfl rfl ⟨rfl, rfl, rfl⟩
 ·replace h := br_f hg1 h
  refine Tk_condF (congrArg (fun b => some (Value.bool b)) hg1) ?_
  refine Tk_skip (Tk_seq (Tk_seq (Tk_region (Tops_step rfl (OpT_assign rfl rfl rfl rfl) ?_))))
  refine Tops_nil (Tk_wkS (fr' := [(0, some (vap01)), (1, some (vb1)), (5, some (vI (0 : Int)))]) (own' := []) (shr' := [Fact.sl PutPackedS vap01 ap0, Fact.sl PutPackedS vb1 b]) [0, 1, 5] [] [0, 1] rfl rfl rfl rfl ?_)
  refine Tk_block (Tk_loopS (σ := Int) [0, 1, 5] [] [0, 1] (fun s => ⟨[(0, some (vap01)), (1, some (vb1)), (5, some (vI s))], [], [Fact.sl PutPackedS vap01 ap0, Fact.sl PutPackedS vb1 b]⟩) (fun nf1 s => kit_SamePackedL1 ap0 b nf1 s = some r) fuel (0 : Int) h rfl rfl rfl rfl rfl (fun s h => by cases h) ?_)
  rintro nf1 i1 h
  replace h : kit_SamePackedL1B ap0 b (kit_SamePackedL1 ap0 b nf1) i1 = some r := h
  unfold kit_SamePackedL1B at h
  refine Tk_seq (Tk_seq (Tk_region (Tops_step rfl (OpT_move rfl rfl rfl rfl) ?_)))
  refine Tops_step rfl (OpT_move rfl rfl rfl rfl) ?_
  refine Tops_step rfl (OpT_lenS rfl rfl rfl rfl Try.underlying29 (i := 0) rfl) ?_
  refine Tops_step rfl (OpT_bin rfl rfl rfl rfl rfl (bin_lss_i (a := i1) (b := len ap0))) ?_
  refine Tops_nil (Tk_wkS (fr' := [(0, some (vap01)), (1, some (vb1)), (5, some (vI i1)), (14, some (vB (decide (i1 < (len ap0)))))]) (own' := []) (shr' := [Fact.sl PutPackedS vap01 ap0, Fact.sl PutPackedS vb1 b]) [0, 1, 5, 14] [] [0, 1] rfl rfl rfl rfl ?_)
  rcases Bool.eq_false_or_eq_true (decide (i1 < (len ap0))) with hg2 | hg2
  ·replace h := br_t hg2 h
   refine Tk_condT (congrArg (fun b => some (Value.bool b)) hg2) ?_
   refine Tk_skip (Tk_seq (Tk_block (Tk_seq (Tk_drawT (by kernel_rfl) ?_))))
   refine TA_tb [0, 0, 3, 7, 0, 0, 48, 112, 255] (by kernel_rfl) fun htb => ?_
   refine TA_wkS (fr' := [(0, some (vap01)), (1, some (vb1)), (5, some (vI i1))]) (own' := []) (shr' := [Fact.sl PutPackedS vap01 ap0, Fact.sl PutPackedS vb1 b]) [0, 1, 5] [] [0, 1] rfl rfl rfl rfl ?_
   obtain ⟨p1, hx1, h⟩ := ob_e h
   obtain ⟨p3, hx2, h⟩ := ob_e h
   refine TA_seg (lo := 0) (hi := 8) htb rfl rfl (by kernel_rfl) (fun c L a w => ∃ (p2 : Value), ∃ (p4 : Value), Sat c ⟨[(0, some (vap01)), (1, some (vb1)), (5, some (vI i1)), (17, bif L 0 then some (vap01) else none), (18, bif L 1 then some (vI i1) else none), (19, bif L 2 then some (p2) else none), (20, bif L 3 then some (.agg #[vI p1.At, vU64 p1.Desc.Addr, vU32 p1.Desc.Len, vU16 p1.Desc.ID, vU16 p1.Desc.Flags]) else none), (21, bif L 4 then some (vb1) else none), (22, bif L 5 then some (vI i1) else none), (23, bif L 6 then some (p4) else none), (24, bif L 7 then some (.agg #[vI p3.At, vU64 p3.Desc.Addr, vU32 p3.Desc.Len, vU16 p3.Desc.ID, vU16 p3.Desc.Flags]) else none)], [], [Fact.sl PutPackedS vap01 ap0, Fact.sl PutPackedS vb1 b, (bif L 2 then Fact.pt PutPackedS p2 p1 else Fact.tt), (bif L 6 then Fact.pt PutPackedS p4 p3 else Fact.tt)]⟩ a w) [([], [2, 3]), ([], [2, 3]), ([0, 1], [3]), ([0, 1, 2], []), ([], [6, 7]), ([], [6, 7]), ([4, 5], [7]), ([4, 5, 6], [])] rfl (by kernel_rfl) ?_ (steps_cons ?_ (steps_cons ?_ (steps_cons ?_ (steps_cons ?_ (steps_cons ?_ (steps_cons ?_ (steps_cons ?_ (steps_cons ?_ (steps_nil))))))))) ?_
   ·intro a w hs
    exact ⟨undef, undef, hs.startF [17, 18, 19, 20, 21, 22, 23, 24] [] [0, 1, 2, 3] rfl rfl rfl rfl⟩
   ·intro L a w hv K Q hK
    obtain ⟨p2, p4, hs⟩ := hv
    refine wpOp_go rfl rfl hs (OpT_move rfl rfl rfl rfl) ?_
    rintro _ rfl a' w' hs'
    exact hK a' w' ⟨p2, p4, hs'.putF (i := 3) rfl [] [0, 1, 2, 3] rfl rfl rfl rfl⟩
   ·intro L a w hv K Q hK
    obtain ⟨p2, p4, hs⟩ := hv
    refine wpOp_go rfl rfl hs (OpT_move rfl rfl rfl rfl) ?_
    rintro _ rfl a' w' hs'
    exact hK a' w' ⟨p2, p4, hs'.putF (i := 4) rfl [] [0, 1, 2, 3] rfl rfl rfl rfl⟩
   ·intro L a w hv K Q hK
    obtain ⟨p2, p4, hs⟩ := hv
    refine wpOp_go rfl rfl hs (OpT_idxS rfl rfl rfl rfl rfl slF29 (i := 0) rfl hx1) ?_
    rintro _ ⟨p2', rfl⟩ a' w' hs'
    exact hK a' w' ⟨p2', p4, hs'.putF (i := 5) rfl [] [0, 1, 4, 3] rfl rfl rfl rfl⟩
   ·intro L a w hv K Q hK
    obtain ⟨p2, p4, hs⟩ := hv
    refine wpOp_go rfl rfl hs (OpT_loadPA (vs := [vI p1.At, vU64 p1.Desc.Addr, vU32 p1.Desc.Len, vU16 p1.Desc.ID, vU16 p1.Desc.Flags]) rfl rfl rfl rfl tyF46 (i := 2) rfl rfl) ?_
    rintro _ rfl a' w' hs'
    exact hK a' w' ⟨p2, p4, hs'.putF (i := 6) rfl [] [0, 1, 2, 3] rfl rfl rfl rfl⟩
   ·intro L a w hv K Q hK
    obtain ⟨p2, p4, hs⟩ := hv
    refine wpOp_go rfl rfl hs (OpT_move rfl rfl rfl rfl) ?_
    rintro _ rfl a' w' hs'
    exact hK a' w' ⟨p2, p4, hs'.putF (i := 7) rfl [] [0, 1, 2, 3] rfl rfl rfl rfl⟩
   ·intro L a w hv K Q hK
    obtain ⟨p2, p4, hs⟩ := hv
    refine wpOp_go rfl rfl hs (OpT_move rfl rfl rfl rfl) ?_
    rintro _ rfl a' w' hs'
    exact hK a' w' ⟨p2, p4, hs'.putF (i := 8) rfl [] [0, 1, 2, 3] rfl rfl rfl rfl⟩
   ·intro L a w hv K Q hK
    obtain ⟨p2, p4, hs⟩ := hv
    refine wpOp_go rfl rfl hs (OpT_idxS rfl rfl rfl rfl rfl slF29 (i := 1) rfl hx2) ?_
    rintro _ ⟨p4', rfl⟩ a' w' hs'
    exact hK a' w' ⟨p2, p4', hs'.putF (i := 9) rfl [] [0, 1, 2, 4] rfl rfl rfl rfl⟩
   ·intro L a w hv K Q hK
    obtain ⟨p2, p4, hs⟩ := hv
    refine wpOp_go rfl rfl hs (OpT_loadPA (vs := [vI p3.At, vU64 p3.Desc.Addr, vU32 p3.Desc.Len, vU16 p3.Desc.ID, vU16 p3.Desc.Flags]) rfl rfl rfl rfl tyF46 (i := 3) rfl rfl) ?_
    rintro _ rfl a' w' hs'
    exact hK a' w' ⟨p2, p4, hs'.putF (i := 10) rfl [] [0, 1, 2, 3] rfl rfl rfl rfl⟩
   ·intro L a w hL hv
    rw [allTrue hL] at hv
    obtain ⟨p2, p4, hs⟩ := hv
    refine (show TA _ _ _ 8 ⟨[(0, some (vap01)), (1, some (vb1)), (5, some (vI i1)), (20, some (.agg #[vI p1.At, vU64 p1.Desc.Addr, vU32 p1.Desc.Len, vU16 p1.Desc.ID, vU16 p1.Desc.Flags])), (24, some (.agg #[vI p3.At, vU64 p3.Desc.Addr, vU32 p3.Desc.Len, vU16 p3.Desc.ID, vU16 p3.Desc.Flags]))], [], [Fact.sl PutPackedS vap01 ap0, Fact.sl PutPackedS vb1 b]⟩ from ?_) a w (hs.wkS [0, 1, 5, 20, 24] [] [0, 1] rfl rfl rfl rfl)
    clear hs hL
    refine TA_step htb (by kernel_rfl) rfl rfl (OpT_bin rfl rfl rfl rfl rfl (eqT46_neq p1 p3)) ?_
    refine TA_end rfl ?_
    refine Tk_wkS (fr' := [(0, some (vap01)), (1, some (vb1)), (5, some (vI i1)), (25, some (vB (p1 != p3)))]) (own' := []) (shr' := [Fact.sl PutPackedS vap01 ap0, Fact.sl PutPackedS vb1 b]) [0, 1, 5, 25] [] [0, 1] rfl rfl rfl rfl ?_
    rcases Bool.eq_false_or_eq_true (p1 != p3) with hg3 | hg3
    ·replace h := br_t hg3 h
     refine Tk_condT (congrArg (fun b => some (Value.bool b)) hg3) ?_
     refine Tk_seq (Tk_region (Tops_step rfl (OpT_assign rfl rfl rfl rfl) ?_))
     refine Tops_nil (Tk_wkS (fr' := [(4, some (vB false))]) (own' := []) (shr' := []) [4] [] [] rfl rfl rfl rfl ?_)
     obtain rfl := Option.some.inj h
     exact Tk_retV rfl rfl (resA (vs := [vB false]) rfl ⟨rfl, trivial⟩) [] [] rfl rfl rfl ⟨rfl, rfl, rfl⟩
    ·replace h := br_f hg3 h
     refine Tk_condF (congrArg (fun b => some (Value.bool b)) hg3) ?_
     refine Tk_skip (Tk_blk (Tk_region (Tops_step rfl (OpT_move rfl rfl rfl rfl) ?_)))
     refine Tops_step rfl (OpT_bin rfl rfl rfl rfl rfl (bin_add_i (a := i1) (b := (1 : Int)))) ?_
     refine Tops_step rfl (OpT_assign rfl rfl rfl rfl) ?_
     refine Tops_nil (Tk_wkS (fr' := [(0, some (vap01)), (1, some (vb1)), (5, some (vI (wi (i1 + (1 : Int)))))]) (own' := []) (shr' := [Fact.sl PutPackedS vap01 ap0, Fact.sl PutPackedS vb1 b]) [0, 1, 5] [] [0, 1] rfl rfl rfl rfl ?_)
     exact Tk_backS (wi (i1 + (1 : Int))) h [0, 1, 5] [] [0, 1] rfl rfl rfl rfl rfl
  ·replace h := br_f hg2 h
   refine Tk_condF (congrArg (fun b => some (Value.bool b)) hg2) ?_
   refine Tk_exit _ rfl ?_
   refine Tk_seq (Tk_region (Tops_step rfl (OpT_assign rfl rfl rfl rfl) ?_))
   refine Tops_nil (Tk_wkS (fr' := [(4, some (vB true))]) (own' := []) (shr' := []) [4] [] [] rfl rfl rfl rfl ?_)
   obtain rfl := Option.some.inj h
   exact Tk_retV rfl rfl (resA (vs := [vB true]) rfl ⟨rfl, trivial⟩) [] [] rfl rfl rfl ⟨rfl, rfl, rfl⟩

set_option maxRecDepth 100000 in
set_option maxHeartbeats 4000000 in
theorem w_law09zlives  {r : Bool} (h : law09zlives = some r) :
  Ctr Try.prog 13 #[] [] []
   (fun rv own shr => rv = vB r ∧ own = [] ∧ shr = []) := by
 unfold law09zlives at h
 refine Ctr.mk (args := []) Try.func13 rfl rfl (fun R0 w0 B => ?_)
 refine Tk_seq (Tk_region (Tops_step rfl (OpT_assign rfl rfl rfl rfl) ?_))
 refine Tops_nil (Tk_wkS (fr' := []) (own' := []) (shr' := []) [] [] [] rfl rfl rfl rfl ?_)
 refine Tk_seq (Tk_region (Tops_ex rfl (OpT_buildSlice (S := iS) (xs := [(3 : Int), (1 : Int)]) (css := [[vI (3 : Int)], [vI (1 : Int)]]) (cs := [vI (3 : Int), vI (1 : Int)]) (e := 3) rfl rfl rfl rfl (bldF slF26 (by decide) (by kernel_rfl)) rfl rfl rfl rfl (rel_plainD (S := iS) (xs := [(3 : Int), (1 : Int)]) (css := [[vI (3 : Int)], [vI (1 : Int)]]) rfl rfl)) fun v1 => ?_))
 obtain ⟨two1, hx1, h⟩ := ob_e h
 refine Tops_exP rfl (OpT_call (w_law09ztwo hx1) [] [] rfl rfl rfl rfl rfl callee8 rfl rfl rfl rfl) ?_
 rintro _ ⟨v2, _, _, ⟨_, rfl, rfl, rfl⟩, rfl⟩
 obtain ⟨split1, hx2, h⟩ := ob_e h
 refine Tops_exP rfl (OpT_callB [0, 1] [0, 1, 2] (w_build_Split hx2) [] rfl rfl rfl rfl rfl callee7 rfl rfl rfl rfl rfl rfl (bor_cons (bor_row 0 rfl rfl) (bor_cons (bor_row 1 rfl rfl) bor_nil)) (by rintro _ _ _ ⟨_, rfl, rfl, rfl⟩; exact ⟨rfl, (ri_cons (ri_row (S := PutS) rfl _ _) ri_nil)⟩)) ?_
 rintro _ ⟨_, _, _, ⟨v3, rfl, rfl, rfl⟩, rfl⟩
 refine Tops_step rfl (OpT_move rfl rfl rfl rfl) ?_
 refine Tops_step rfl (OpT_extract rfl rfl rfl rfl rfl) ?_
 refine Tops_step rfl (OpT_extract rfl rfl rfl rfl rfl) ?_
 refine Tops_step rfl (OpT_assign rfl rfl rfl rfl) ?_
 refine Tops_step rfl (OpT_assign rfl rfl rfl rfl) ?_
 refine Tops_nil (Tk_wkS (fr' := [(1, some (v3)), (2, some (vI split1.2))]) (own' := [some (rowS PutS v3 split1.1)]) (shr' := []) [1, 2] [2] [] rfl rfl rfl rfl ?_)
 refine Tk_seq (Tk_region (Tops_step rfl (OpT_build (v := .agg #[vI (3 : Int), vB true]) rfl rfl rfl rfl (bldV (by kernel_rfl))) ?_))
 obtain ⟨two2, hx3, h⟩ := ob_e h
 refine Tops_exP rfl (OpT_call (w_law09ztwo hx3) [] [] rfl rfl rfl rfl rfl callee8 rfl rfl rfl rfl) ?_
 rintro _ ⟨v4, _, _, ⟨_, rfl, rfl, rfl⟩, rfl⟩
 obtain ⟨packed1, hx4, h⟩ := ob_e h
 refine Tops_exP rfl (OpT_callB [1] [0, 1, 2] (w_build_Packed hx4) [] rfl rfl rfl rfl rfl callee9 rfl rfl rfl rfl rfl rfl (bor_cons (bor_row 1 rfl rfl) bor_nil) (by rintro _ _ _ ⟨_, rfl, rfl, rfl⟩; exact ⟨rfl, (ri_cons (ri_row (S := PutPackedS) rfl _ _) ri_nil)⟩)) ?_
 rintro _ ⟨_, _, _, ⟨v5, rfl, rfl, rfl⟩, rfl⟩
 refine Tops_step rfl (OpT_move rfl rfl rfl rfl) ?_
 refine Tops_step rfl (OpT_extract rfl rfl rfl rfl rfl) ?_
 refine Tops_step rfl (OpT_extract rfl rfl rfl rfl rfl) ?_
 refine Tops_step rfl (OpT_assign rfl rfl rfl rfl) ?_
 refine Tops_step rfl (OpT_assign rfl rfl rfl rfl) ?_
 refine Tops_nil (Tk_wkS (fr' := [(1, some (v3)), (2, some (vI split1.2)), (3, some (v5)), (4, some (vI packed1.2))]) (own' := [some (rowS PutS v3 split1.1), some (rowS PutPackedS v5 packed1.1)]) (shr' := []) [1, 2, 3, 4] [0, 2] [] rfl rfl rfl rfl ?_)
 refine Tk_seq (Tk_region (Tops_step rfl (OpT_move rfl rfl rfl rfl) ?_))
 refine Tops_step rfl (OpT_bin rfl rfl rfl rfl rfl (bin_eql_i (a := split1.2) (b := (0 : Int)))) ?_
 refine Tops_step rfl (OpT_move rfl rfl rfl rfl) ?_
 rcases Bool.eq_false_or_eq_true (split1.2 == (0 : Int)) with hg1 | hg1
 ·replace h := br_t hg1 h
  refine Tops_yes rfl rfl (congrArg (fun b => some (Value.bool b)) hg1) (OpT_move rfl rfl rfl rfl) ?_
  rintro _ rfl
  refine Tops_yes rfl rfl (congrArg (fun b => some (Value.bool b)) hg1) (OpT_build (v := .agg #[vU64 (100 : UInt64), vU32 (8 : UInt32), vU16 (1 : UInt16), vU16 (1 : UInt16)]) rfl rfl rfl rfl (bldV (by kernel_rfl))) ?_
  rintro _ rfl
  refine Tops_yes rfl rfl (congrArg (fun b => some (Value.bool b)) hg1) (OpT_build (v := .agg #[vI (3 : Int), vU64 (100 : UInt64), vU32 (8 : UInt32), vU16 (1 : UInt16), vU16 (1 : UInt16)]) rfl rfl rfl rfl (bldV (by kernel_rfl))) ?_
  rintro _ rfl
  refine Tops_yes rfl rfl (congrArg (fun b => some (Value.bool b)) hg1) (OpT_build (v := .agg #[vU64 (200 : UInt64), vU32 (4 : UInt32), vU16 (2 : UInt16), vU16 (0 : UInt16)]) rfl rfl rfl rfl (bldV (by kernel_rfl))) ?_
  rintro _ rfl
  refine Tops_yes rfl rfl (congrArg (fun b => some (Value.bool b)) hg1) (OpT_build (v := .agg #[vI (1 : Int), vU64 (200 : UInt64), vU32 (4 : UInt32), vU16 (2 : UInt16), vU16 (0 : UInt16)]) rfl rfl rfl rfl (bldV (by kernel_rfl))) ?_
  rintro _ rfl
  refine Tops_yes rfl rfl (congrArg (fun b => some (Value.bool b)) hg1) (OpT_buildSlice (S := PutS) (xs := [(Put.mk (3 : Int) (Desc.mk (100 : UInt64) (8 : UInt32) (1 : UInt16) (1 : UInt16))), (Put.mk (1 : Int) (Desc.mk (200 : UInt64) (4 : UInt32) (2 : UInt16) (0 : UInt16)))]) (css := [[vI (3 : Int), vU64 (100 : UInt64), vU32 (8 : UInt32), vU16 (1 : UInt16), vU16 (1 : UInt16)], [vI (1 : Int), vU64 (200 : UInt64), vU32 (4 : UInt32), vU16 (2 : UInt16), vU16 (0 : UInt16)]]) (cs := [vI (3 : Int), vU64 (100 : UInt64), vU32 (8 : UInt32), vU16 (1 : UInt16), vU16 (1 : UInt16), vI (1 : Int), vU64 (200 : UInt64), vU32 (4 : UInt32), vU16 (2 : UInt16), vU16 (0 : UInt16)]) (e := 40) rfl rfl rfl rfl (bldF slF22 (by decide) (by kernel_rfl)) rfl rfl rfl rfl (rel_plainD (S := PutS) (xs := [(Put.mk (3 : Int) (Desc.mk (100 : UInt64) (8 : UInt32) (1 : UInt16) (1 : UInt16))), (Put.mk (1 : Int) (Desc.mk (200 : UInt64) (4 : UInt32) (2 : UInt16) (0 : UInt16)))]) (css := [[vI (3 : Int), vU64 (100 : UInt64), vU32 (8 : UInt32), vU16 (1 : UInt16), vU16 (1 : UInt16)], [vI (1 : Int), vU64 (200 : UInt64), vU32 (4 : UInt32), vU16 (2 : UInt16), vU16 (0 : UInt16)]]) rfl rfl)) ?_
  rintro _ ⟨v6, rfl⟩
  obtain ⟨samepu1, hx5, h⟩ := ob_e h
  refine Tops_yes rfl rfl (congrArg (fun b => some (Value.bool b)) hg1) (OpT_callB [0, 2] [0, 1, 2] (w_kit_SamePuts hx5) [] rfl rfl rfl rfl rfl callee24 rfl rfl rfl rfl rfl rfl (bor_cons (bor_row 0 rfl rfl) (bor_cons (bor_row 2 rfl rfl) bor_nil)) (by rintro _ _ _ ⟨rfl, rfl, rfl⟩; exact ⟨rfl, ri_nil⟩)) ?_
  rintro _ ⟨_, _, _, ⟨rfl, rfl, rfl⟩, rfl⟩
  refine Tops_step rfl (OpT_pickT rfl rfl rfl (congrArg (fun b => some (Value.bool b)) hg1) rfl) ?_
  refine Tops_step rfl (OpT_move rfl rfl rfl rfl) ?_
  rcases Bool.eq_false_or_eq_true (samepu1) with hg2 | hg2
  ·replace h := br_t hg2 h
   refine Tops_yes rfl rfl (congrArg (fun b => some (Value.bool b)) hg2) (OpT_move rfl rfl rfl rfl) ?_
   rintro _ rfl
   refine Tops_yes rfl rfl (congrArg (fun b => some (Value.bool b)) hg2) (OpT_bin rfl rfl rfl rfl rfl (bin_eql_i (a := packed1.2) (b := (0 : Int)))) ?_
   rintro _ rfl
   refine Tops_step rfl (OpT_pickT rfl rfl rfl (congrArg (fun b => some (Value.bool b)) hg2) rfl) ?_
   refine Tops_step rfl (OpT_move rfl rfl rfl rfl) ?_
   rcases Bool.eq_false_or_eq_true (packed1.2 == (0 : Int)) with hg3 | hg3
   ·replace h := br_t hg3 h
    refine Tops_yes rfl rfl (congrArg (fun b => some (Value.bool b)) hg3) (OpT_move rfl rfl rfl rfl) ?_
    rintro _ rfl
    refine Tops_yes rfl rfl (congrArg (fun b => some (Value.bool b)) hg3) (OpT_build (v := .agg #[vU64 (100 : UInt64), vU32 (8 : UInt32), vU16 (2 : UInt16), vU16 (129 : UInt16)]) rfl rfl rfl rfl (bldV (by kernel_rfl))) ?_
    rintro _ rfl
    refine Tops_yes rfl rfl (congrArg (fun b => some (Value.bool b)) hg3) (OpT_build (v := .agg #[vI (3 : Int), vU64 (100 : UInt64), vU32 (8 : UInt32), vU16 (2 : UInt16), vU16 (129 : UInt16)]) rfl rfl rfl rfl (bldV (by kernel_rfl))) ?_
    rintro _ rfl
    refine Tops_yes rfl rfl (congrArg (fun b => some (Value.bool b)) hg3) (OpT_build (v := .agg #[vU64 (200 : UInt64), vU32 (4 : UInt32), vU16 (2 : UInt16), vU16 (32770 : UInt16)]) rfl rfl rfl rfl (bldV (by kernel_rfl))) ?_
    rintro _ rfl
    refine Tops_yes rfl rfl (congrArg (fun b => some (Value.bool b)) hg3) (OpT_build (v := .agg #[vI (0 : Int), vU64 (200 : UInt64), vU32 (4 : UInt32), vU16 (2 : UInt16), vU16 (32770 : UInt16)]) rfl rfl rfl rfl (bldV (by kernel_rfl))) ?_
    rintro _ rfl
    refine Tops_yes rfl rfl (congrArg (fun b => some (Value.bool b)) hg3) (OpT_buildSlice (S := PutPackedS) (xs := [(PutPacked.mk (3 : Int) (Packed.mk (100 : UInt64) (8 : UInt32) (2 : UInt16) (129 : UInt16))), (PutPacked.mk (0 : Int) (Packed.mk (200 : UInt64) (4 : UInt32) (2 : UInt16) (32770 : UInt16)))]) (css := [[vI (3 : Int), vU64 (100 : UInt64), vU32 (8 : UInt32), vU16 (2 : UInt16), vU16 (129 : UInt16)], [vI (0 : Int), vU64 (200 : UInt64), vU32 (4 : UInt32), vU16 (2 : UInt16), vU16 (32770 : UInt16)]]) (cs := [vI (3 : Int), vU64 (100 : UInt64), vU32 (8 : UInt32), vU16 (2 : UInt16), vU16 (129 : UInt16), vI (0 : Int), vU64 (200 : UInt64), vU32 (4 : UInt32), vU16 (2 : UInt16), vU16 (32770 : UInt16)]) (e := 46) rfl rfl rfl rfl (bldF slF29 (by decide) (by kernel_rfl)) rfl rfl rfl rfl (rel_plainD (S := PutPackedS) (xs := [(PutPacked.mk (3 : Int) (Packed.mk (100 : UInt64) (8 : UInt32) (2 : UInt16) (129 : UInt16))), (PutPacked.mk (0 : Int) (Packed.mk (200 : UInt64) (4 : UInt32) (2 : UInt16) (32770 : UInt16)))]) (css := [[vI (3 : Int), vU64 (100 : UInt64), vU32 (8 : UInt32), vU16 (2 : UInt16), vU16 (129 : UInt16)], [vI (0 : Int), vU64 (200 : UInt64), vU32 (4 : UInt32), vU16 (2 : UInt16), vU16 (32770 : UInt16)]]) rfl rfl)) ?_
    rintro _ ⟨v7, rfl⟩
    obtain ⟨samepa1, hx6, h⟩ := ob_e h
    refine Tops_yes rfl rfl (congrArg (fun b => some (Value.bool b)) hg3) (OpT_callB [1, 3] [0, 1, 2, 3] (w_kit_SamePacked hx6) [] rfl rfl rfl rfl rfl callee25 rfl rfl rfl rfl rfl rfl (bor_cons (bor_row 1 rfl rfl) (bor_cons (bor_row 3 rfl rfl) bor_nil)) (by rintro _ _ _ ⟨rfl, rfl, rfl⟩; exact ⟨rfl, ri_nil⟩)) ?_
    rintro _ ⟨_, _, _, ⟨rfl, rfl, rfl⟩, rfl⟩
    refine Tops_step rfl (OpT_pickT rfl rfl rfl (congrArg (fun b => some (Value.bool b)) hg3) rfl) ?_
    refine Tops_step rfl (OpT_assign rfl rfl rfl rfl) ?_
    refine Tops_nil (Tk_wkS (fr' := [(0, some (vB samepa1))]) (own' := []) (shr' := []) [0] [] [] rfl rfl rfl rfl ?_)
    obtain rfl := Option.some.inj h
    exact Tk_retV rfl rfl (resA (vs := [vB samepa1]) rfl ⟨rfl, trivial⟩) [] [] rfl rfl rfl ⟨rfl, rfl, rfl⟩
   ·replace h := br_f hg3 h
    refine Tops_no rfl rfl (congrArg (fun b => some (Value.bool b)) hg3) rfl rfl ?_
    refine Tops_no rfl rfl (congrArg (fun b => some (Value.bool b)) hg3) rfl rfl ?_
    refine Tops_no rfl rfl (congrArg (fun b => some (Value.bool b)) hg3) rfl rfl ?_
    refine Tops_no rfl rfl (congrArg (fun b => some (Value.bool b)) hg3) rfl rfl ?_
    refine Tops_no rfl rfl (congrArg (fun b => some (Value.bool b)) hg3) rfl rfl ?_
    refine Tops_no rfl rfl (congrArg (fun b => some (Value.bool b)) hg3) rfl rfl ?_
    refine Tops_no rfl rfl (congrArg (fun b => some (Value.bool b)) hg3) rfl rfl ?_
    refine Tops_step rfl (OpT_pickF rfl rfl rfl (congrArg (fun b => some (Value.bool b)) hg3) rfl) ?_
    refine Tops_step rfl (OpT_assign rfl rfl rfl rfl) ?_
    refine Tops_nil (Tk_wkS (fr' := [(0, some (vB false))]) (own' := []) (shr' := []) [0] [] [] rfl rfl rfl rfl ?_)
    obtain rfl := Option.some.inj h
    exact Tk_retV rfl rfl (resA (vs := [vB false]) rfl ⟨rfl, trivial⟩) [] [] rfl rfl rfl ⟨rfl, rfl, rfl⟩
  ·replace h := br_f hg2 h
   refine Tops_no rfl rfl (congrArg (fun b => some (Value.bool b)) hg2) rfl rfl ?_
   refine Tops_no rfl rfl (congrArg (fun b => some (Value.bool b)) hg2) rfl rfl ?_
   refine Tops_step rfl (OpT_pickF rfl rfl rfl (congrArg (fun b => some (Value.bool b)) hg2) rfl) ?_
   refine Tops_step rfl (OpT_move rfl rfl rfl rfl) ?_
   refine Tops_no rfl rfl rfl rfl rfl ?_
   refine Tops_no rfl rfl rfl rfl rfl ?_
   refine Tops_no rfl rfl rfl rfl rfl ?_
   refine Tops_no rfl rfl rfl rfl rfl ?_
   refine Tops_no rfl rfl rfl rfl rfl ?_
   refine Tops_no rfl rfl rfl rfl rfl ?_
   refine Tops_no rfl rfl rfl rfl rfl ?_
   refine Tops_step rfl (OpT_pickF rfl rfl rfl rfl rfl) ?_
   refine Tops_step rfl (OpT_assign rfl rfl rfl rfl) ?_
   refine Tops_nil (Tk_wkS (fr' := [(0, some (vB false))]) (own' := []) (shr' := []) [0] [] [] rfl rfl rfl rfl ?_)
   obtain rfl := Option.some.inj h
   exact Tk_retV rfl rfl (resA (vs := [vB false]) rfl ⟨rfl, trivial⟩) [] [] rfl rfl rfl ⟨rfl, rfl, rfl⟩
 ·replace h := br_f hg1 h
  refine Tops_no rfl rfl (congrArg (fun b => some (Value.bool b)) hg1) rfl rfl ?_
  refine Tops_no rfl rfl (congrArg (fun b => some (Value.bool b)) hg1) rfl rfl ?_
  refine Tops_no rfl rfl (congrArg (fun b => some (Value.bool b)) hg1) rfl rfl ?_
  refine Tops_no rfl rfl (congrArg (fun b => some (Value.bool b)) hg1) rfl rfl ?_
  refine Tops_no rfl rfl (congrArg (fun b => some (Value.bool b)) hg1) rfl rfl ?_
  refine Tops_no rfl rfl (congrArg (fun b => some (Value.bool b)) hg1) rfl rfl ?_
  refine Tops_no rfl rfl (congrArg (fun b => some (Value.bool b)) hg1) rfl rfl ?_
  refine Tops_step rfl (OpT_pickF rfl rfl rfl (congrArg (fun b => some (Value.bool b)) hg1) rfl) ?_
  refine Tops_step rfl (OpT_move rfl rfl rfl rfl) ?_
  refine Tops_no rfl rfl rfl rfl rfl ?_
  refine Tops_no rfl rfl rfl rfl rfl ?_
  refine Tops_step rfl (OpT_pickF rfl rfl rfl rfl rfl) ?_
  refine Tops_step rfl (OpT_move rfl rfl rfl rfl) ?_
  refine Tops_no rfl rfl rfl rfl rfl ?_
  refine Tops_no rfl rfl rfl rfl rfl ?_
  refine Tops_no rfl rfl rfl rfl rfl ?_
  refine Tops_no rfl rfl rfl rfl rfl ?_
  refine Tops_no rfl rfl rfl rfl rfl ?_
  refine Tops_no rfl rfl rfl rfl rfl ?_
  refine Tops_no rfl rfl rfl rfl rfl ?_
  refine Tops_step rfl (OpT_pickF rfl rfl rfl rfl rfl) ?_
  refine Tops_step rfl (OpT_assign rfl rfl rfl rfl) ?_
  refine Tops_nil (Tk_wkS (fr' := [(0, some (vB false))]) (own' := []) (shr' := []) [0] [] [] rfl rfl rfl rfl ?_)
  obtain rfl := Option.some.inj h
  exact Tk_retV rfl rfl (resA (vs := [vB false]) rfl ⟨rfl, trivial⟩) [] [] rfl rfl rfl ⟨rfl, rfl, rfl⟩

set_option maxRecDepth 100000 in
set_option maxHeartbeats 4000000 in
theorem w_build_Needs {l : List Seg} {table : Bool} {vl1 : Value} {r : Int} (h : build_Needs l table = some r) :
  Ctr Try.prog 14 #[vl1, vB table] [] [Fact.sl SegS vl1 l]
   (fun rv own shr => rv = vI r ∧ own = [] ∧ shr = []) := by
 unfold build_Needs at h
 refine Ctr.mk (args := [vl1, vB table]) Try.func14 rfl rfl (fun R0 w0 B => ?_)
 refine Tk_seq (Tk_region (Tops_step rfl (OpT_assign rfl rfl rfl rfl) ?_))
 refine Tops_nil (Tk_wkS (fr' := [(0, some (vl1)), (1, some (vB table))]) (own' := []) (shr' := [Fact.sl SegS vl1 l]) [0, 1] [] [0] rfl rfl rfl rfl ?_)
 refine Tk_seq (Tk_block (Tk_seq (Tk_region (Tops_step rfl (OpT_move rfl rfl rfl rfl) ?_))))
 obtain ⟨check1, hx1, h⟩ := ob_e h
 refine Tops_exP rfl (OpT_call (w_seg_Check hx1) [] [0] rfl rfl rfl rfl rfl callee46 rfl rfl rfl rfl) ?_
 rintro _ ⟨_, _, _, ⟨rfl, rfl, rfl⟩, rfl⟩
 refine Tops_step rfl (OpT_bin rfl rfl rfl rfl rfl (bin_neq_i (a := check1) (b := (0 : Int)))) ?_
 refine Tops_step rfl (OpT_move rfl rfl rfl rfl) ?_
 rcases Bool.eq_false_or_eq_true (check1 != (0 : Int)) with hg1 | hg1
 ·replace h := br_t hg1 h
  refine Tops_no rfl rfl (congrArg (fun b => some (Value.bool b)) hg1) rfl rfl ?_
  refine Tops_no rfl rfl (congrArg (fun b => some (Value.bool b)) hg1) rfl rfl ?_
  refine Tops_no rfl rfl (congrArg (fun b => some (Value.bool b)) hg1) rfl rfl ?_
  refine Tops_step rfl (OpT_pickT rfl rfl rfl (congrArg (fun b => some (Value.bool b)) hg1) rfl) ?_
  refine Tops_step rfl (OpT_assign rfl rfl rfl rfl) ?_
  refine Tops_nil (Tk_wkS (fr' := [(0, some (vl1)), (1, some (vB table)), (5, some (vB true))]) (own' := []) (shr' := [Fact.sl SegS vl1 l]) [0, 1, 5] [] [0] rfl rfl rfl rfl ?_)
  refine Tk_condT rfl ?_
  refine Tk_seq (Tk_region (Tops_step rfl (OpT_assign rfl rfl rfl rfl) ?_))
  refine Tops_nil (Tk_wkS (fr' := [(4, some (vI (0 : Int)))]) (own' := []) (shr' := []) [4] [] [] rfl rfl rfl rfl ?_)
  obtain rfl := Option.some.inj h
  exact Tk_retV rfl rfl (resA (vs := [vI (0 : Int)]) rfl ⟨rfl, trivial⟩) [] [] rfl rfl rfl ⟨rfl, rfl, rfl⟩
 ·replace h := br_f hg1 h
  refine Tops_yes rfl rfl (congrArg (fun b => some (Value.bool b)) hg1) (OpT_move rfl rfl rfl rfl) ?_
  rintro _ rfl
  refine Tops_yes rfl rfl (congrArg (fun b => some (Value.bool b)) hg1) (OpT_lenS rfl rfl rfl rfl Try.underlying27 (i := 0) rfl) ?_
  rintro _ rfl
  refine Tops_yes rfl rfl (congrArg (fun b => some (Value.bool b)) hg1) (OpT_bin rfl rfl rfl rfl rfl (bin_eql_i (a := len l) (b := (0 : Int)))) ?_
  rintro _ rfl
  refine Tops_step rfl (OpT_pickF rfl rfl rfl (congrArg (fun b => some (Value.bool b)) hg1) rfl) ?_
  refine Tops_step rfl (OpT_assign rfl rfl rfl rfl) ?_
  refine Tops_nil (Tk_wkS (fr' := [(0, some (vl1)), (1, some (vB table)), (5, some (vB ((len l) == (0 : Int))))]) (own' := []) (shr' := [Fact.sl SegS vl1 l]) [0, 1, 5] [] [0] rfl rfl rfl rfl ?_)
  rcases Bool.eq_false_or_eq_true ((len l) == (0 : Int)) with hg2 | hg2
  ·replace h := br_t hg2 h
   refine Tk_condT (congrArg (fun b => some (Value.bool b)) hg2) ?_
   refine Tk_seq (Tk_region (Tops_step rfl (OpT_assign rfl rfl rfl rfl) ?_))
   refine Tops_nil (Tk_wkS (fr' := [(4, some (vI (0 : Int)))]) (own' := []) (shr' := []) [4] [] [] rfl rfl rfl rfl ?_)
   obtain rfl := Option.some.inj h
   exact Tk_retV rfl rfl (resA (vs := [vI (0 : Int)]) rfl ⟨rfl, trivial⟩) [] [] rfl rfl rfl ⟨rfl, rfl, rfl⟩
  ·replace h := br_f hg2 h
   refine Tk_condF (congrArg (fun b => some (Value.bool b)) hg2) ?_
   refine Tk_seq (Tk_region (Tops_step rfl (OpT_move rfl rfl rfl rfl) ?_))
   refine Tops_step rfl (OpT_assign rfl rfl rfl rfl) ?_
   refine Tops_nil (Tk_wkS (fr' := [(0, some (vl1)), (14, some (vB table))]) (own' := []) (shr' := [Fact.sl SegS vl1 l]) [0, 14] [] [0] rfl rfl rfl rfl ?_)
   rcases Bool.eq_false_or_eq_true (table) with hg3 | hg3
   ·replace h := br_t hg3 h
    refine Tk_condT (congrArg (fun b => some (Value.bool b)) hg3) ?_
    refine Tk_seq (Tk_region (Tops_step rfl (OpT_assign rfl rfl rfl rfl) ?_))
    refine Tops_nil (Tk_wkS (fr' := [(4, some (vI (1 : Int)))]) (own' := []) (shr' := []) [4] [] [] rfl rfl rfl rfl ?_)
    obtain rfl := Option.some.inj h
    exact Tk_retV rfl rfl (resA (vs := [vI (1 : Int)]) rfl ⟨rfl, trivial⟩) [] [] rfl rfl rfl ⟨rfl, rfl, rfl⟩
   ·replace h := br_f hg3 h
    refine Tk_condF (congrArg (fun b => some (Value.bool b)) hg3) ?_
    refine Tk_skip (Tk_blk (Tk_seq (Tk_region (Tops_step rfl (OpT_move rfl rfl rfl rfl) ?_))))
    refine Tops_step rfl (OpT_lenS rfl rfl rfl rfl Try.underlying27 (i := 0) rfl) ?_
    refine Tops_step rfl (OpT_assign rfl rfl rfl rfl) ?_
    refine Tops_nil (Tk_wkS (fr' := [(4, some (vI (len l)))]) (own' := []) (shr' := []) [4] [] [] rfl rfl rfl rfl ?_)
    obtain rfl := Option.some.inj h
    exact Tk_retV rfl rfl (resA (vs := [vI (len l)]) rfl ⟨rfl, trivial⟩) [] [] rfl rfl rfl ⟨rfl, rfl, rfl⟩

set_option maxRecDepth 100000 in
set_option maxHeartbeats 4000000 in
theorem w_ref_get03 {b : List UInt8} {atp1 : Int} {np2 : Int} {vb1 : Value} {r : UInt64} (h : ref_get03 b atp1 np2 = some r) :
  Ctr Try.prog 49 #[vb1, vI atp1, vI np2] [] [Fact.sl u8S vb1 b]
   (fun rv own shr => rv = vU64 r ∧ own = [] ∧ shr = []) := by
 unfold ref_get03 at h
 refine Ctr.mk (args := [vb1, vI atp1, vI np2]) Try.func49 rfl rfl (fun R0 w0 B => ?_)
 refine Tk_seq (Tk_region (Tops_step rfl (OpT_assign rfl rfl rfl rfl) ?_))
 refine Tops_nil (Tk_wkS (fr' := [(0, some (vb1)), (1, some (vI atp1)), (2, some (vI np2))]) (own' := []) (shr' := [Fact.sl u8S vb1 b]) [0, 1, 2] [] [0] rfl rfl rfl rfl ?_)
 refine Tk_seq (Tk_region (Tops_step rfl (OpT_assign rfl rfl rfl rfl) ?_))
 refine Tops_nil (Tk_seq (Tk_seq (Tk_region (Tops_step rfl (OpT_move rfl rfl rfl rfl) ?_))))
 refine Tops_step rfl (OpT_bin rfl rfl rfl rfl rfl (bin_sub_i (a := np2) (b := (1 : Int)))) ?_
 refine Tops_step rfl (OpT_assign rfl rfl rfl rfl) ?_
 refine Tops_nil (Tk_wkS (fr' := [(0, some (vb1)), (1, some (vI atp1)), (7, some (vU64 (0 : UInt64))), (8, some (vI (wi (np2 - (1 : Int)))))]) (own' := []) (shr' := [Fact.sl u8S vb1 b]) [0, 1, 7, 8] [] [0] rfl rfl rfl rfl ?_)
 refine Tk_block (Tk_loopS (σ := UInt64 × Int) [0, 1, 7, 8] [] [0] (fun s => ⟨[(0, some (vb1)), (1, some (vI atp1)), (7, some (vU64 s.1)), (8, some (vI s.2))], [], [Fact.sl u8S vb1 b]⟩) (fun nf1 s => ref_get03L1 b atp1 nf1 s.1 s.2 = some r) fuel ((0 : UInt64), wi (np2 - (1 : Int))) h rfl rfl rfl rfl rfl (fun s h => by cases h) ?_)
 rintro nf1 ⟨v1, i1⟩ h
 replace h : ref_get03L1B b atp1 (ref_get03L1 b atp1 nf1) v1 i1 = some r := h
 unfold ref_get03L1B at h
 refine Tk_seq (Tk_seq (Tk_region (Tops_step rfl (OpT_move rfl rfl rfl rfl) ?_)))
 refine Tops_step rfl (OpT_bin rfl rfl rfl rfl rfl (bin_geq_i (a := i1) (b := (0 : Int)))) ?_
 refine Tops_nil (Tk_wkS (fr' := [(0, some (vb1)), (1, some (vI atp1)), (7, some (vU64 v1)), (8, some (vI i1)), (12, some (vB (decide (i1 ≥ (0 : Int)))))]) (own' := []) (shr' := [Fact.sl u8S vb1 b]) [0, 1, 7, 8, 12] [] [0] rfl rfl rfl rfl ?_)
 rcases Bool.eq_false_or_eq_true (decide (i1 ≥ (0 : Int))) with hg1 | hg1
 ·replace h := br_t hg1 h
  refine Tk_condT (congrArg (fun b => some (Value.bool b)) hg1) ?_
  refine Tk_skip (Tk_seq (Tk_block (Tk_region (Tops_step rfl (OpT_move rfl rfl rfl rfl) ?_))))
  refine Tops_step rfl (OpT_bin rfl rfl rfl rfl rfl (bin_mul_u64 (a := (256 : UInt64)) (b := v1))) ?_
  refine Tops_step rfl (OpT_move rfl rfl rfl rfl) ?_
  refine Tops_step rfl (OpT_move rfl rfl rfl rfl) ?_
  refine Tops_step rfl (OpT_move rfl rfl rfl rfl) ?_
  refine Tops_step rfl (OpT_bin rfl rfl rfl rfl rfl (bin_add_i (a := atp1) (b := i1))) ?_
  obtain ⟨y1, hx1, h⟩ := ob_e h
  refine Tops_ex rfl (OpT_idxS rfl rfl rfl rfl rfl slF49 (i := 0) rfl hx1) fun p1 => ?_
  refine Tops_step rfl (OpT_loadP rfl rfl rfl rfl tyF5 (i := 1) rfl rfl) ?_
  refine Tops_step rfl (OpT_cnv rfl rfl rfl rfl (cnv_u8_u64 (n := y1) Try.underlying5 Try.underlying34)) ?_
  refine Tops_step rfl (OpT_bin rfl rfl rfl rfl rfl (bin_add_u64 (a := (256 : UInt64) * v1) (b := y1.toUInt64))) ?_
  refine Tops_step rfl (OpT_assign rfl rfl rfl rfl) ?_
  refine Tops_nil (Tk_wkS (fr' := [(0, some (vb1)), (1, some (vI atp1)), (7, some (vU64 (((256 : UInt64) * v1) + y1.toUInt64))), (8, some (vI i1))]) (own' := []) (shr' := [Fact.sl u8S vb1 b]) [0, 1, 7, 8] [] [0] rfl rfl rfl rfl ?_)
  refine Tk_blk (Tk_region (Tops_step rfl (OpT_move rfl rfl rfl rfl) ?_))
  refine Tops_step rfl (OpT_bin rfl rfl rfl rfl rfl (bin_sub_i (a := i1) (b := (1 : Int)))) ?_
  refine Tops_step rfl (OpT_assign rfl rfl rfl rfl) ?_
  refine Tops_nil (Tk_wkS (fr' := [(0, some (vb1)), (1, some (vI atp1)), (7, some (vU64 (((256 : UInt64) * v1) + y1.toUInt64))), (8, some (vI (wi (i1 - (1 : Int)))))]) (own' := []) (shr' := [Fact.sl u8S vb1 b]) [0, 1, 7, 8] [] [0] rfl rfl rfl rfl ?_)
  exact Tk_backS (((256 : UInt64) * v1) + y1.toUInt64, wi (i1 - (1 : Int))) h [0, 1, 7, 8] [] [0] rfl rfl rfl rfl rfl
 ·replace h := br_f hg1 h
  refine Tk_condF (congrArg (fun b => some (Value.bool b)) hg1) ?_
  refine Tk_exit _ rfl ?_
  refine Tk_seq (Tk_region (Tops_step rfl (OpT_move rfl rfl rfl rfl) ?_))
  refine Tops_step rfl (OpT_assign rfl rfl rfl rfl) ?_
  refine Tops_nil (Tk_wkS (fr' := [(6, some (vU64 v1))]) (own' := []) (shr' := []) [6] [] [] rfl rfl rfl rfl ?_)
  obtain rfl := Option.some.inj h
  exact Tk_retV rfl rfl (resA (vs := [vU64 v1]) rfl ⟨rfl, trivial⟩) [] [] rfl rfl rfl ⟨rfl, rfl, rfl⟩

set_option maxRecDepth 100000 in
set_option maxHeartbeats 4000000 in
theorem w_ref_Read03 {b : List UInt8} {vb1 : Value} {r : (Desc × Int)} (h : ref_Read03 b = some r) :
  Ctr Try.prog 47 #[vb1] [] [Fact.sl u8S vb1 b]
   (fun rv own shr => rv = .tuple #[.agg #[vU64 r.1.Addr, vU32 r.1.Len, vU16 r.1.Flags, vU16 r.1.Next], vI r.2] ∧ own = [] ∧ shr = []) := by
 unfold ref_Read03 at h
 refine Ctr.mk (args := [vb1]) Try.func47 rfl rfl (fun R0 w0 B => ?_)
 refine Tk_seq (Tk_region (Tops_ex rfl (OpT_alloc rfl rfl rfl tyZ38) fun b1 => ?_))
 refine Tops_step rfl (OpT_assign rfl rfl rfl rfl) ?_
 refine Tops_nil (Tk_wkS (fr' := [(0, some (vb1)), (2, some (.pointer (some ⟨b1, 0, none⟩)))]) (own' := [some (cellsR b1 38 [vU64 (0 : UInt64), vU32 (0 : UInt32), vU16 (0 : UInt16), vU16 (0 : UInt16)])]) (shr' := [Fact.sl u8S vb1 b]) [0, 2] [0] [0] rfl rfl rfl rfl ?_)
 refine Tk_seq (Tk_seq (Tk_region (Tops_step rfl (OpT_move rfl rfl rfl rfl) ?_)))
 refine Tops_step rfl (OpT_lenS rfl rfl rfl rfl Try.underlying49 (i := 0) rfl) ?_
 refine Tops_step rfl (OpT_bin rfl rfl rfl rfl rfl (bin_neq_i (a := len b) (b := (16 : Int)))) ?_
 refine Tops_nil (Tk_wkS (fr' := [(0, some (vb1)), (2, some (.pointer (some ⟨b1, 0, none⟩))), (6, some (vB ((len b) != (16 : Int))))]) (own' := [some (cellsR b1 38 [vU64 (0 : UInt64), vU32 (0 : UInt32), vU16 (0 : UInt16), vU16 (0 : UInt16)])]) (shr' := [Fact.sl u8S vb1 b]) [0, 2, 6] [0] [0] rfl rfl rfl rfl ?_)
 rcases Bool.eq_false_or_eq_true ((len b) != (16 : Int)) with hg1 | hg1
 ·replace h := br_t hg1 h
  refine Tk_condT (congrArg (fun b => some (Value.bool b)) hg1) ?_
  refine Tk_seq (Tk_region (Tops_step rfl (OpT_build (v := .agg #[vU64 (0 : UInt64), vU32 (0 : UInt32), vU16 (0 : UInt16), vU16 (0 : UInt16)]) rfl rfl rfl rfl (bldV (by kernel_rfl))) ?_))
  refine Tops_step rfl (OpT_storeC (cs' := [vU64 (0 : UInt64), vU32 (0 : UInt32), vU16 (0 : UInt16), vU16 (0 : UInt16)]) rfl rfl rfl rfl tyF38 (i := 0) rfl rfl rfl (one_of rfl) rfl) ?_
  refine Tops_step rfl (OpT_assign rfl rfl rfl rfl) ?_
  refine Tops_nil (Tk_wkS (fr' := [(2, some (.pointer (some ⟨b1, 0, none⟩))), (3, some (vI (4 : Int)))]) (own' := [some (cellsR b1 38 [vU64 (0 : UInt64), vU32 (0 : UInt32), vU16 (0 : UInt16), vU16 (0 : UInt16)])]) (shr' := []) [2, 3] [0] [] rfl rfl rfl rfl ?_)
  obtain rfl := Option.some.inj h
  exact Tk_retV rfl rfl (resA (vs := [.agg #[vU64 (0 : UInt64), vU32 (0 : UInt32), vU16 (0 : UInt16), vU16 (0 : UInt16)], vI (4 : Int)]) rfl ⟨⟨_, 0, _, _, _, rfl, rfl, .inl ⟨tyF38, rfl, rfl⟩⟩, rfl, trivial⟩) [] [] rfl rfl rfl ⟨rfl, rfl, rfl⟩
 ·replace h := br_f hg1 h
  refine Tk_condF (congrArg (fun b => some (Value.bool b)) hg1) ?_
  refine Tk_skip (Tk_seq (Tk_region (Tops_step rfl (OpT_move rfl rfl rfl rfl) ?_)))
  obtain ⟨get1, hx1, h⟩ := ob_e h
  refine Tops_exP rfl (OpT_call (w_ref_get03 hx1) [] [0] rfl rfl rfl rfl rfl callee49 rfl rfl rfl rfl) ?_
  rintro _ ⟨_, _, _, ⟨rfl, rfl, rfl⟩, rfl⟩
  refine Tops_step rfl (OpT_move rfl rfl rfl rfl) ?_
  obtain ⟨get2, hx2, h⟩ := ob_e h
  refine Tops_exP rfl (OpT_call (w_ref_get03 hx2) [] [0] rfl rfl rfl rfl rfl callee49 rfl rfl rfl rfl) ?_
  rintro _ ⟨_, _, _, ⟨rfl, rfl, rfl⟩, rfl⟩
  refine Tops_step rfl (OpT_cnv rfl rfl rfl rfl (cnv_u64_u32 (n := get2) Try.underlying34 Try.underlying35)) ?_
  refine Tops_step rfl (OpT_move rfl rfl rfl rfl) ?_
  obtain ⟨get3, hx3, h⟩ := ob_e h
  refine Tops_exP rfl (OpT_call (w_ref_get03 hx3) [] [0] rfl rfl rfl rfl rfl callee49 rfl rfl rfl rfl) ?_
  rintro _ ⟨_, _, _, ⟨rfl, rfl, rfl⟩, rfl⟩
  refine Tops_step rfl (OpT_cnv rfl rfl rfl rfl (cnv_u64_u16 (n := get3) Try.underlying34 Try.underlying36)) ?_
  refine Tops_step rfl (OpT_move rfl rfl rfl rfl) ?_
  obtain ⟨get4, hx4, h⟩ := ob_e h
  refine Tops_exP rfl (OpT_call (w_ref_get03 hx4) [] [0] rfl rfl rfl rfl rfl callee49 rfl rfl rfl rfl) ?_
  rintro _ ⟨_, _, _, ⟨rfl, rfl, rfl⟩, rfl⟩
  refine Tops_step rfl (OpT_cnv rfl rfl rfl rfl (cnv_u64_u16 (n := get4) Try.underlying34 Try.underlying36)) ?_
  refine Tops_step rfl (OpT_build (v := .agg #[vU64 get1, vU32 get2.toUInt32, vU16 get3.toUInt16, vU16 get4.toUInt16]) rfl rfl rfl rfl (bldV (by kernel_rfl))) ?_
  refine Tops_step rfl (OpT_storeC (cs' := [vU64 get1, vU32 get2.toUInt32, vU16 get3.toUInt16, vU16 get4.toUInt16]) rfl rfl rfl rfl tyF38 (i := 0) rfl rfl rfl (one_of rfl) rfl) ?_
  refine Tops_step rfl (OpT_assign rfl rfl rfl rfl) ?_
  refine Tops_nil (Tk_wkS (fr' := [(2, some (.pointer (some ⟨b1, 0, none⟩))), (3, some (vI (0 : Int)))]) (own' := [some (cellsR b1 38 [vU64 get1, vU32 get2.toUInt32, vU16 get3.toUInt16, vU16 get4.toUInt16])]) (shr' := []) [2, 3] [0] [] rfl rfl rfl rfl ?_)
  obtain rfl := Option.some.inj h
  exact Tk_retV rfl rfl (resA (vs := [.agg #[vU64 get1, vU32 get2.toUInt32, vU16 get3.toUInt16, vU16 get4.toUInt16], vI (0 : Int)]) rfl ⟨⟨_, 0, _, _, _, rfl, rfl, .inl ⟨tyF38, rfl, rfl⟩⟩, rfl, trivial⟩) [] [] rfl rfl rfl ⟨rfl, rfl, rfl⟩

set_option maxRecDepth 100000 in
set_option maxHeartbeats 4000000 in
theorem w_ref_ReadTable03 {b : List UInt8} {vb1 : Value} {r : ((List Desc) × Int)} (h : ref_ReadTable03 b = some r) :
  Ctr Try.prog 16 #[vb1] [] [Fact.sl u8S vb1 b]
   (fun rv own shr => ∃ (w1 : Value), rv = .tuple #[w1, vI r.2] ∧ own = [(rowS DescS w1 r.1)] ∧ shr = []) := by
 unfold ref_ReadTable03 at h
 refine Ctr.mk (args := [vb1]) Try.func16 rfl rfl (fun R0 w0 B => ?_)
 refine Tk_seq (Tk_region (Tops_step rfl (OpT_assign rfl rfl rfl rfl) ?_))
 refine Tops_step rfl (OpT_assign rfl rfl rfl rfl) ?_
 refine Tops_nil (Tk_wkS (fr' := [(0, some (vb1))]) (own' := []) (shr' := [Fact.sl u8S vb1 b]) [0] [] [0] rfl rfl rfl rfl ?_)
 refine Tk_seq (Tk_seq (Tk_region (Tops_step rfl (OpT_move rfl rfl rfl rfl) ?_)))
 refine Tops_step rfl (OpT_lenS rfl rfl rfl rfl Try.underlying49 (i := 0) rfl) ?_
 refine Tops_step rfl (OpT_bin rfl rfl rfl rfl rfl (bin_rem_i (a := len b) (b := (16 : Int)) rfl)) ?_
 refine Tops_step rfl (OpT_bin rfl rfl rfl rfl rfl (bin_neq_i (a := remi (len b) (16 : Int)) (b := (0 : Int)))) ?_
 refine Tops_nil (Tk_wkS (fr' := [(0, some (vb1)), (11, some (vB ((remi (len b) (16 : Int)) != (0 : Int))))]) (own' := []) (shr' := [Fact.sl u8S vb1 b]) [0, 11] [] [0] rfl rfl rfl rfl ?_)
 rcases Bool.eq_false_or_eq_true ((remi (len b) (16 : Int)) != (0 : Int)) with hg1 | hg1
 ·replace h := br_t hg1 h
  refine Tk_condT (congrArg (fun b => some (Value.bool b)) hg1) ?_
  refine Tk_seq (Tk_region (Tops_step rfl (OpT_assign rfl rfl rfl rfl) ?_))
  refine Tops_step rfl (OpT_assign rfl rfl rfl rfl) ?_
  refine Tops_nil (Tk_wkS (fr' := [(2, some (.slice none 0 0)), (3, some (vI (4 : Int)))]) (own' := []) (shr' := []) [2, 3] [] [] rfl rfl rfl rfl ?_)
  refine Tk_nilrow DescS ?_
  obtain rfl := Option.some.inj h
  exact Tk_retV rfl rfl (resA (vs := [.slice none 0 0, vI (4 : Int)]) rfl ⟨rfl, rfl, trivial⟩) [0] [] rfl rfl rfl ⟨(.slice none 0 0), rfl, rfl, rfl⟩
 ·replace h := br_f hg1 h
  refine Tk_condF (congrArg (fun b => some (Value.bool b)) hg1) ?_
  refine Tk_skip (Tk_seq (Tk_region (Tops_step rfl (OpT_assign rfl rfl rfl rfl) ?_)))
  refine Tops_nil (Tk_wkS (fr' := [(0, some (vb1)), (4, some (.slice none 0 0))]) (own' := []) (shr' := [Fact.sl u8S vb1 b]) [0, 4] [] [0] rfl rfl rfl rfl ?_)
  refine Tk_seq (Tk_seq (Tk_region (Tops_step rfl (OpT_assign rfl rfl rfl rfl) ?_)))
  refine Tops_nil (Tk_block (Tk_nilrow DescS ?_))
  refine Tk_loopS (σ := (List Desc) × Int × Value) [0, 4, 5] [0] [0] (fun s => ⟨[(0, some (vb1)), (4, some (s.2.2)), (5, some (vI s.2.1))], [some (rowS DescS s.2.2 s.1)], [Fact.sl u8S vb1 b]⟩) (fun nf1 s => ref_ReadTable03L1 b nf1 s.1 s.2.1 = some r) fuel ([], (0 : Int), (.slice none 0 0)) h rfl rfl rfl rfl rfl (fun s h => by cases h) ?_
  rintro nf1 ⟨out1, i1, v1⟩ h
  replace h : ref_ReadTable03L1B b (ref_ReadTable03L1 b nf1) out1 i1 = some r := h
  unfold ref_ReadTable03L1B at h
  refine Tk_seq (Tk_seq (Tk_region (Tops_step rfl (OpT_move rfl rfl rfl rfl) ?_)))
  refine Tops_step rfl (OpT_move rfl rfl rfl rfl) ?_
  refine Tops_step rfl (OpT_lenS rfl rfl rfl rfl Try.underlying49 (i := 0) rfl) ?_
  refine Tops_step rfl (OpT_bin rfl rfl rfl rfl rfl (bin_lss_i (a := i1) (b := len b))) ?_
  refine Tops_nil (Tk_wkS (fr' := [(0, some (vb1)), (4, some (v1)), (5, some (vI i1)), (15, some (vB (decide (i1 < (len b)))))]) (own' := [some (rowS DescS v1 out1)]) (shr' := [Fact.sl u8S vb1 b]) [0, 4, 5, 15] [0] [0] rfl rfl rfl rfl ?_)
  rcases Bool.eq_false_or_eq_true (decide (i1 < (len b))) with hg2 | hg2
  ·replace h := br_t hg2 h
   refine Tk_condT (congrArg (fun b => some (Value.bool b)) hg2) ?_
   refine Tk_skip (Tk_seq (Tk_block (Tk_seq (Tk_region (Tops_step rfl (OpT_move rfl rfl rfl rfl) ?_)))))
   refine Tops_step rfl (OpT_move rfl rfl rfl rfl) ?_
   refine Tops_step rfl (OpT_move rfl rfl rfl rfl) ?_
   refine Tops_step rfl (OpT_bin rfl rfl rfl rfl rfl (bin_add_i (a := i1) (b := (16 : Int)))) ?_
   obtain ⟨hc1, h⟩ := chk_e h
   refine Tops_ex rfl (OpT_sliceLH (l := i1) (m := wi (i1 + (16 : Int))) rfl rfl rfl rfl rfl rfl slF49 (i := 0) rfl hc1) fun v2 => ?_
   obtain ⟨read1, hx1, h⟩ := ob_e h
   refine Tops_exP rfl (OpT_call (w_ref_Read03 hx1) [] [1] rfl rfl rfl rfl rfl callee47 rfl rfl rfl rfl) ?_
   rintro _ ⟨_, _, _, ⟨rfl, rfl, rfl⟩, rfl⟩
   refine Tops_step rfl (OpT_move rfl rfl rfl rfl) ?_
   refine Tops_step rfl (OpT_extract rfl rfl rfl rfl rfl) ?_
   refine Tops_step rfl (OpT_extract rfl rfl rfl rfl rfl) ?_
   refine Tops_ex rfl (OpT_alloc rfl rfl rfl tyZ38) fun b1 => ?_
   refine Tops_step rfl (OpT_storeC (cs' := [vU64 read1.1.Addr, vU32 read1.1.Len, vU16 read1.1.Flags, vU16 read1.1.Next]) rfl rfl rfl rfl tyF38 (i := 1) rfl rfl rfl (one_of rfl) rfl) ?_
   refine Tops_step rfl (OpT_assign rfl rfl rfl rfl) ?_
   refine Tops_nil (Tk_wkS (fr' := [(0, some (vb1)), (4, some (v1)), (5, some (vI i1)), (6, some (.pointer (some ⟨b1, 0, none⟩)))]) (own' := [some (rowS DescS v1 out1), some (cellsR b1 38 [vU64 read1.1.Addr, vU32 read1.1.Len, vU16 read1.1.Flags, vU16 read1.1.Next])]) (shr' := [Fact.sl u8S vb1 b]) [0, 4, 5, 6] [0, 1] [0] rfl rfl rfl rfl ?_)
   refine Tk_region (Tops_step rfl (OpT_move rfl rfl rfl rfl) ?_)
   refine Tops_step rfl (OpT_loadCA (vs := [vU64 read1.1.Addr, vU32 read1.1.Len, vU16 read1.1.Flags, vU16 read1.1.Next]) rfl rfl rfl rfl tyF38 (i := 1) rfl rfl rfl) ?_
   refine Tops_ex rfl (OpT_buildSlice (S := DescS) (xs := [read1.1]) (css := [[vU64 read1.1.Addr, vU32 read1.1.Len, vU16 read1.1.Flags, vU16 read1.1.Next]]) (cs := [vU64 read1.1.Addr, vU32 read1.1.Len, vU16 read1.1.Flags, vU16 read1.1.Next]) (e := 38) rfl rfl rfl rfl (bldF slF55 (by decide) (by kernel_rfl)) rfl rfl rfl rfl (rel_plainD (S := DescS) (xs := [read1.1]) (css := [[vU64 read1.1.Addr, vU32 read1.1.Len, vU16 read1.1.Flags, vU16 read1.1.Next]]) rfl rfl)) fun v3 => ?_
   obtain ⟨hc2, h⟩ := chk_e h
   refine Tops_ex rfl (OpT_appendB (S := DescS) rfl rfl rfl rfl rfl rfl slF55 (i := 0) (j := 2) rfl rfl hc2) fun v4 => ?_
   refine Tops_step rfl (OpT_assign rfl rfl rfl rfl) ?_
   refine Tops_nil (Tk_wkS (fr' := [(0, some (vb1)), (4, some (v4)), (5, some (vI i1))]) (own' := [some (rowS DescS v4 (out1 ++ [read1.1]))]) (shr' := [Fact.sl u8S vb1 b]) [0, 4, 5] [0] [0] rfl rfl rfl rfl ?_)
   refine Tk_blk (Tk_region (Tops_step rfl (OpT_move rfl rfl rfl rfl) ?_))
   refine Tops_step rfl (OpT_bin rfl rfl rfl rfl rfl (bin_add_i (a := i1) (b := (16 : Int)))) ?_
   refine Tops_step rfl (OpT_assign rfl rfl rfl rfl) ?_
   refine Tops_nil (Tk_wkS (fr' := [(0, some (vb1)), (4, some (v4)), (5, some (vI (wi (i1 + (16 : Int)))))]) (own' := [some (rowS DescS v4 (out1 ++ [read1.1]))]) (shr' := [Fact.sl u8S vb1 b]) [0, 4, 5] [0] [0] rfl rfl rfl rfl ?_)
   exact Tk_backS (out1 ++ [read1.1], wi (i1 + (16 : Int)), v4) h [0, 4, 5] [0] [0] rfl rfl rfl rfl rfl
  ·replace h := br_f hg2 h
   refine Tk_condF (congrArg (fun b => some (Value.bool b)) hg2) ?_
   refine Tk_exit _ rfl ?_
   refine Tk_seq (Tk_region (Tops_step rfl (OpT_move rfl rfl rfl rfl) ?_))
   refine Tops_step rfl (OpT_assign rfl rfl rfl rfl) ?_
   refine Tops_step rfl (OpT_assign rfl rfl rfl rfl) ?_
   refine Tops_nil (Tk_wkS (fr' := [(2, some (v1)), (3, some (vI (0 : Int)))]) (own' := [some (rowS DescS v1 out1)]) (shr' := []) [2, 3] [0] [] rfl rfl rfl rfl ?_)
   obtain rfl := Option.some.inj h
   exact Tk_retV rfl rfl (resA (vs := [v1, vI (0 : Int)]) rfl ⟨rfl, rfl, trivial⟩) [0] [] rfl rfl rfl ⟨v1, rfl, rfl, rfl⟩

set_option maxRecDepth 100000 in
set_option maxHeartbeats 4000000 in
theorem w_desc_PackedBytes {dp0 : Packed} {r : (List UInt8)} (h : desc_PackedBytes dp0 = some r) :
  Ctr Try.prog 48 #[.agg #[vU64 dp0.Addr, vU32 dp0.Len, vU16 dp0.ID, vU16 dp0.Flags]] [] []
   (fun rv own shr => ∃ (w1 : Value), rv = w1 ∧ own = [(rowS u8S w1 r)] ∧ shr = []) := by
 unfold desc_PackedBytes at h
 refine Ctr.mk (args := [.agg #[vU64 dp0.Addr, vU32 dp0.Len, vU16 dp0.ID, vU16 dp0.Flags]]) Try.func48 rfl rfl (fun R0 w0 B => ?_)
 refine Tk_seq (Tk_region (Tops_ex rfl (OpT_box rfl rfl rfl rfl) fun b1 => ?_))
 refine Tops_step rfl (OpT_assign rfl rfl rfl rfl) ?_
 refine Tops_nil (Tk_wkS (fr' := [(1, some (.pointer (some ⟨b1, 0, none⟩)))]) (own' := [some (cellsR b1 44 [vU64 dp0.Addr, vU32 dp0.Len, vU16 dp0.ID, vU16 dp0.Flags])]) (shr' := []) [1] [0] [] rfl rfl rfl rfl ?_)
 refine Tk_seq (Tk_region (Tops_ex rfl (OpT_alloc rfl rfl rfl tyZ104) fun b2 => ?_))
 refine Tops_nil (Tk_seq (Tk_region (Tops_step rfl (OpT_fieldC rfl rfl rfl rfl fldF44x0) ?_)))
 refine Tops_step rfl (OpT_loadC rfl rfl rfl rfl tyF34 (i := 0) rfl rfl) ?_
 obtain ⟨put1, hx1, h⟩ := ob_e h
 refine Tops_exP rfl (OpT_callP [0, 2] (w_desc_raw_put hx1) [1] [] rfl rfl rfl rfl rfl callee61 rfl rfl rfl rfl rfl) ?_
 rintro _ ⟨_, _, _, ⟨rfl, rfl, rfl⟩, rfl⟩
 refine Tops_nil (Tk_wkS (fr' := [(1, some (.pointer (some ⟨b1, 0, none⟩))), (3, some (.pointer (some ⟨b2, 0, none⟩)))]) (own' := [some (cellsR b1 44 [vU64 dp0.Addr, vU32 dp0.Len, vU16 dp0.ID, vU16 dp0.Flags]), some (cellsR b2 104 (put1.map vU8))]) (shr' := []) [1, 3] [0, 1] [] rfl rfl rfl rfl ?_)
 refine Tk_seq (Tk_region (Tops_step rfl (OpT_fieldC rfl rfl rfl rfl fldF44x1) ?_))
 refine Tops_step rfl (OpT_loadC rfl rfl rfl rfl tyF35 (i := 0) rfl rfl) ?_
 refine Tops_step rfl (OpT_cnv rfl rfl rfl rfl (cnv_u32_u64 (n := dp0.Len) Try.underlying35 Try.underlying34)) ?_
 obtain ⟨put2, hx2, h⟩ := ob_e h
 refine Tops_exP rfl (OpT_callP [0, 2] (w_desc_raw_put hx2) [1] [] rfl rfl rfl rfl rfl callee61 rfl rfl rfl rfl rfl) ?_
 rintro _ ⟨_, _, _, ⟨rfl, rfl, rfl⟩, rfl⟩
 refine Tops_nil (Tk_wkS (fr' := [(1, some (.pointer (some ⟨b1, 0, none⟩))), (3, some (.pointer (some ⟨b2, 0, none⟩)))]) (own' := [some (cellsR b1 44 [vU64 dp0.Addr, vU32 dp0.Len, vU16 dp0.ID, vU16 dp0.Flags]), some (cellsR b2 104 (put2.map vU8))]) (shr' := []) [1, 3] [0, 1] [] rfl rfl rfl rfl ?_)
 refine Tk_seq (Tk_region (Tops_step rfl (OpT_fieldC rfl rfl rfl rfl fldF44x2) ?_))
 refine Tops_step rfl (OpT_loadC rfl rfl rfl rfl tyF36 (i := 0) rfl rfl) ?_
 refine Tops_step rfl (OpT_cnv rfl rfl rfl rfl (cnv_u16_u64 (n := dp0.ID) Try.underlying36 Try.underlying34)) ?_
 obtain ⟨put3, hx3, h⟩ := ob_e h
 refine Tops_exP rfl (OpT_callP [0, 2] (w_desc_raw_put hx3) [1] [] rfl rfl rfl rfl rfl callee61 rfl rfl rfl rfl rfl) ?_
 rintro _ ⟨_, _, _, ⟨rfl, rfl, rfl⟩, rfl⟩
 refine Tops_nil (Tk_wkS (fr' := [(1, some (.pointer (some ⟨b1, 0, none⟩))), (3, some (.pointer (some ⟨b2, 0, none⟩)))]) (own' := [some (cellsR b1 44 [vU64 dp0.Addr, vU32 dp0.Len, vU16 dp0.ID, vU16 dp0.Flags]), some (cellsR b2 104 (put3.map vU8))]) (shr' := []) [1, 3] [0, 1] [] rfl rfl rfl rfl ?_)
 refine Tk_seq (Tk_region (Tops_step rfl (OpT_fieldC rfl rfl rfl rfl fldF44x3) ?_))
 refine Tops_step rfl (OpT_loadC rfl rfl rfl rfl tyF36 (i := 0) rfl rfl) ?_
 refine Tops_step rfl (OpT_cnv rfl rfl rfl rfl (cnv_u16_u64 (n := dp0.Flags) Try.underlying36 Try.underlying34)) ?_
 obtain ⟨put4, hx4, h⟩ := ob_e h
 refine Tops_exP rfl (OpT_callP [0, 2] (w_desc_raw_put hx4) [1] [] rfl rfl rfl rfl rfl callee61 rfl rfl rfl rfl rfl) ?_
 rintro _ ⟨_, _, _, ⟨rfl, rfl, rfl⟩, rfl⟩
 refine Tops_nil (Tk_wkS (fr' := [(3, some (.pointer (some ⟨b2, 0, none⟩)))]) (own' := [some (cellsR b2 104 (put4.map vU8))]) (shr' := []) [3] [1] [] rfl rfl rfl rfl ?_)
 refine Tk_seq (Tk_region (Tops_step rfl (OpT_sliceArr rfl rfl rfl rfl arrF104) ?_))
 refine Tops_step rfl (OpT_assign rfl rfl rfl rfl) ?_
 refine Tops_nil (Tk_wkS (fr' := [(2, some (.slice (some ⟨b2, 0, none⟩) 16 16))]) (own' := [some (cellsR b2 104 (put4.map vU8))]) (shr' := []) [2] [0] [] rfl rfl rfl rfl ?_)
 obtain ⟨hc1, h⟩ := chk_e h
 refine Tk_rowD u8S rfl (i := 0) (xs := put4) rfl (flat_one _) (len_of hc1) rfl ?_
 obtain rfl := Option.some.inj h
 exact Tk_retV rfl rfl (resA (vs := [.slice (some ⟨b2, 0, none⟩) 16 16]) rfl ⟨rfl, trivial⟩) [0] [] rfl rfl rfl ⟨(.slice (some ⟨b2, 0, none⟩) 16 16), rfl, rfl, rfl⟩

set_option maxRecDepth 100000 in
set_option maxHeartbeats 4000000 in
theorem w_build_PackedTable {l : List Seg} {vl1 : Value} {r : ((List UInt8) × Int)} (h : build_PackedTable l = some r) :
  Ctr Try.prog 18 #[vl1] [] [Fact.sl SegS vl1 l]
   (fun rv own shr => ∃ (w1 : Value), rv = .tuple #[w1, vI r.2] ∧ own = [(rowS u8S w1 r.1)] ∧ shr = []) := by
 unfold build_PackedTable at h
 refine Ctr.mk (args := [vl1]) Try.func18 rfl rfl (fun R0 w0 B => ?_)
 refine Tk_seq (Tk_region (Tops_step rfl (OpT_assign rfl rfl rfl rfl) ?_))
 refine Tops_step rfl (OpT_assign rfl rfl rfl rfl) ?_
 refine Tops_nil (Tk_wkS (fr' := [(0, some (vl1))]) (own' := []) (shr' := [Fact.sl SegS vl1 l]) [0] [] [0] rfl rfl rfl rfl ?_)
 refine Tk_seq (Tk_seq (Tk_region (Tops_step rfl (OpT_move rfl rfl rfl rfl) ?_)))
 obtain ⟨buffer1, hx1, h⟩ := ob_e h
 refine Tops_exP rfl (OpT_call (w_build_buffer hx1) [] [0] rfl rfl rfl rfl rfl callee32 rfl rfl rfl rfl) ?_
 rintro _ ⟨v1, _, _, ⟨_, rfl, rfl, rfl⟩, rfl⟩
 refine Tops_ex rfl (OpT_buildOne fnS71 (vs := [v1]) (xs := [buffer1]) rfl rfl rfl rfl rfl slF98 rfl rfl rfl (rel_cons (rel_fn (i := 1) rfl) (rel_nil rfl))) fun v2 => ?_
 obtain ⟨first1, hx2, h⟩ := ob_e h
 refine Tops_exP rfl (OpT_callB [0] [0] (w_build_first hx2) [] rfl rfl rfl rfl rfl callee31 rfl rfl rfl rfl rfl rfl (bor_cons (bor_row 0 rfl rfl) bor_nil) (by rintro _ _ _ ⟨rfl, rfl, rfl⟩; exact ⟨rfl, ri_nil⟩)) ?_
 rintro _ ⟨_, _, _, ⟨rfl, rfl, rfl⟩, rfl⟩
 refine Tops_step rfl (OpT_assign rfl rfl rfl rfl) ?_
 refine Tops_nil (Tk_wkS (fr' := [(0, some (vl1)), (4, some (vI first1))]) (own' := []) (shr' := [Fact.sl SegS vl1 l]) [0, 4] [] [0] rfl rfl rfl rfl ?_)
 refine Tk_seq (Tk_region (Tops_step rfl (OpT_move rfl rfl rfl rfl) ?_))
 refine Tops_step rfl (OpT_bin rfl rfl rfl rfl rfl (bin_neq_i (a := first1) (b := (0 : Int)))) ?_
 refine Tops_nil (Tk_wkS (fr' := [(0, some (vl1)), (4, some (vI first1)), (14, some (vB (first1 != (0 : Int))))]) (own' := []) (shr' := [Fact.sl SegS vl1 l]) [0, 4, 14] [] [0] rfl rfl rfl rfl ?_)
 rcases Bool.eq_false_or_eq_true (first1 != (0 : Int)) with hg1 | hg1
 ·replace h := br_t hg1 h
  refine Tk_condT (congrArg (fun b => some (Value.bool b)) hg1) ?_
  refine Tk_seq (Tk_region (Tops_step rfl (OpT_move rfl rfl rfl rfl) ?_))
  refine Tops_step rfl (OpT_assign rfl rfl rfl rfl) ?_
  refine Tops_step rfl (OpT_assign rfl rfl rfl rfl) ?_
  refine Tops_nil (Tk_wkS (fr' := [(2, some (.slice none 0 0)), (3, some (vI first1))]) (own' := []) (shr' := []) [2, 3] [] [] rfl rfl rfl rfl ?_)
  refine Tk_nilrow u8S ?_
  obtain rfl := Option.some.inj h
  exact Tk_retV rfl rfl (resA (vs := [.slice none 0 0, vI first1]) rfl ⟨rfl, rfl, trivial⟩) [0] [] rfl rfl rfl ⟨(.slice none 0 0), rfl, rfl, rfl⟩
 ·replace h := br_f hg1 h
  refine Tk_condF (congrArg (fun b => some (Value.bool b)) hg1) ?_
  refine Tk_skip (Tk_seq (Tk_region (Tops_step rfl (OpT_assign rfl rfl rfl rfl) ?_)))
  refine Tops_nil (Tk_wkS (fr' := [(0, some (vl1)), (5, some (.slice none 0 0))]) (own' := []) (shr' := [Fact.sl SegS vl1 l]) [0, 5] [] [0] rfl rfl rfl rfl ?_)
  refine Tk_seq (Tk_seq (Tk_region (Tops_step rfl (OpT_move rfl rfl rfl rfl) ?_)))
  refine Tops_step rfl (OpT_lenS rfl rfl rfl rfl Try.underlying27 (i := 0) rfl) ?_
  refine Tops_step rfl (OpT_move rfl rfl rfl rfl) ?_
  refine Tops_nil (Tk_wkS (fr' := [(5, some (.slice none 0 0)), (16, some (vl1)), (17, some (vI (len l))), (18, some (vI (0 : Int)))]) (own' := []) (shr' := [Fact.sl SegS vl1 l]) [5, 16, 17, 18] [] [0] rfl rfl rfl rfl ?_)
  refine Tk_block (Tk_nilrow u8S ?_)
  refine Tk_loopS (σ := (List UInt8) × Int × Value) [5, 16, 17, 18] [0] [0] (fun s => ⟨[(5, some (s.2.2)), (16, some (vl1)), (17, some (vI (len l))), (18, some (vI s.2.1))], [some (rowS u8S s.2.2 s.1)], [Fact.sl SegS vl1 l]⟩) (fun nf1 s => build_PackedTableL1 l nf1 s.1 s.2.1 = some r) fuel ([], (0 : Int), (.slice none 0 0)) h rfl rfl rfl rfl rfl (fun s h => by cases h) ?_
  rintro nf1 ⟨b1, x1, v3⟩ h
  replace h : build_PackedTableL1B l (build_PackedTableL1 l nf1) b1 x1 = some r := h
  unfold build_PackedTableL1B at h
  refine Tk_seq (Tk_region (Tops_step rfl (OpT_bin rfl rfl rfl rfl rfl (bin_lss_i (a := x1) (b := len l))) ?_))
  refine Tops_nil (Tk_seq ?_)
  rcases Bool.eq_false_or_eq_true (decide (x1 < (len l))) with hg2 | hg2
  ·replace h := br_t hg2 h
   refine Tk_condT (congrArg (fun b => some (Value.bool b)) hg2) ?_
   refine Tk_skip (Tk_seq (Tk_block (Tk_seq (Tk_region ?_))))
   obtain ⟨s1, hx3, h⟩ := ob_e h
   refine Tops_ex rfl (OpT_idxS rfl rfl rfl rfl rfl slF27 (i := 0) rfl hx3) fun p1 => ?_
   refine Tops_step rfl (OpT_loadPA (vs := [vU64 s1.At, vU32 s1.Len, vB s1.Write]) rfl rfl rfl rfl tyF59 (i := 1) rfl rfl) ?_
   refine Tops_ex rfl (OpT_alloc rfl rfl rfl tyZ59) fun b2 => ?_
   refine Tops_step rfl (OpT_storeC (cs' := [vU64 s1.At, vU32 s1.Len, vB s1.Write]) rfl rfl rfl rfl tyF59 (i := 1) rfl rfl rfl (one_of rfl) rfl) ?_
   refine Tops_nil (Tk_wkS (fr' := [(5, some (v3)), (16, some (vl1)), (17, some (vI (len l))), (18, some (vI x1)), (7, some (.pointer (some ⟨b2, 0, none⟩)))]) (own' := [some (rowS u8S v3 b1), some (cellsR b2 59 [vU64 s1.At, vU32 s1.Len, vB s1.Write])]) (shr' := [Fact.sl SegS vl1 l]) [5, 16, 17, 18, 7] [0, 1] [0] rfl rfl rfl rfl ?_)
   refine Tk_seq (Tk_region (Tops_step rfl (OpT_fieldC rfl rfl rfl rfl fldF59x0) ?_))
   refine Tops_step rfl (OpT_loadC rfl rfl rfl rfl tyF34 (i := 1) rfl rfl) ?_
   refine Tops_step rfl (OpT_fieldC rfl rfl rfl rfl fldF59x1) ?_
   refine Tops_step rfl (OpT_loadC rfl rfl rfl rfl tyF35 (i := 1) rfl rfl) ?_
   refine Tops_step rfl (OpT_build (v := .agg #[vU64 s1.At, vU32 s1.Len, vU16 (0 : UInt16), vU16 (0 : UInt16)]) rfl rfl rfl rfl (bldV (by kernel_rfl))) ?_
   refine Tops_ex rfl (OpT_alloc rfl rfl rfl tyZ44) fun b3 => ?_
   refine Tops_step rfl (OpT_storeC (cs' := [vU64 s1.At, vU32 s1.Len, vU16 (0 : UInt16), vU16 (0 : UInt16)]) rfl rfl rfl rfl tyF44 (i := 2) rfl rfl rfl (one_of rfl) rfl) ?_
   refine Tops_nil (Tk_wkS (fr' := [(5, some (v3)), (16, some (vl1)), (17, some (vI (len l))), (18, some (vI x1)), (7, some (.pointer (some ⟨b2, 0, none⟩))), (8, some (.pointer (some ⟨b3, 0, none⟩)))]) (own' := [some (rowS u8S v3 b1), some (cellsR b2 59 [vU64 s1.At, vU32 s1.Len, vB s1.Write]), some (cellsR b3 44 [vU64 s1.At, vU32 s1.Len, vU16 (0 : UInt16), vU16 (0 : UInt16)])]) (shr' := [Fact.sl SegS vl1 l]) [5, 16, 17, 18, 7, 8] [0, 1, 2] [0] rfl rfl rfl rfl ?_)
   refine Tk_seq (Tk_seq (Tk_region (Tops_step rfl (OpT_fieldC rfl rfl rfl rfl fldF59x2) ?_)))
   refine Tops_step rfl (OpT_loadC rfl rfl rfl rfl tyF4 (i := 1) rfl rfl) ?_
   refine Tops_nil (Tk_wkS (fr' := [(5, some (v3)), (16, some (vl1)), (17, some (vI (len l))), (18, some (vI x1)), (8, some (.pointer (some ⟨b3, 0, none⟩))), (28, some (vB s1.Write))]) (own' := [some (rowS u8S v3 b1), some (cellsR b3 44 [vU64 s1.At, vU32 s1.Len, vU16 (0 : UInt16), vU16 (0 : UInt16)])]) (shr' := [Fact.sl SegS vl1 l]) [5, 16, 17, 18, 8, 28] [0, 2] [0] rfl rfl rfl rfl ?_)
   refine Tk_join (α := (List UInt8) × Packed × Value) (fun s => ⟨[(5, some (s.2.2)), (16, some (vl1)), (17, some (vI (len l))), (18, some (vI x1)), (8, some (.pointer (some ⟨b3, 0, none⟩)))], [some (rowS u8S s.2.2 s.1), some (cellsR b3 44 [vU64 s.2.1.Addr, vU32 s.2.1.Len, vU16 s.2.1.ID, vU16 s.2.1.Flags])], [Fact.sl SegS vl1 l]⟩) (fun s => build_PackedTableJ2 x1 (build_PackedTableL1 l nf1) s.1 s.2.1 = some r) ?_ ?_
   ·rintro ⟨l1, m1, v4⟩ h
    replace h : build_PackedTableJ2 x1 (build_PackedTableL1 l nf1) l1 m1 = some r := h
    unfold build_PackedTableJ2 at h
    refine Tk_region (Tops_step rfl (OpT_move rfl rfl rfl rfl) ?_)
    refine Tops_step rfl (OpT_loadCA (vs := [vU64 m1.Addr, vU32 m1.Len, vU16 m1.ID, vU16 m1.Flags]) rfl rfl rfl rfl tyF44 (i := 1) rfl rfl rfl) ?_
    obtain ⟨packed1, hx4, h⟩ := ob_e h
    refine Tops_exP rfl (OpT_call (w_desc_PackedBytes hx4) [] [] rfl rfl rfl rfl rfl callee48 rfl rfl rfl rfl) ?_
    rintro _ ⟨v5, _, _, ⟨_, rfl, rfl, rfl⟩, rfl⟩
    obtain ⟨hc1, h⟩ := chk_e h
    refine Tops_ex rfl (OpT_appendB (S := u8S) rfl rfl rfl rfl rfl rfl slF49 (i := 0) (j := 2) rfl rfl hc1) fun v6 => ?_
    refine Tops_step rfl (OpT_assign rfl rfl rfl rfl) ?_
    refine Tops_nil (Tk_wkS (fr' := [(5, some (v6)), (16, some (vl1)), (17, some (vI (len l))), (18, some (vI x1))]) (own' := [some (rowS u8S v6 (l1 ++ packed1))]) (shr' := [Fact.sl SegS vl1 l]) [5, 16, 17, 18] [0] [0] rfl rfl rfl rfl ?_)
    refine Tk_blk (Tk_region (Tops_step rfl (OpT_bin rfl rfl rfl rfl rfl (bin_add_i (a := x1) (b := (1 : Int)))) ?_))
    refine Tops_step rfl (OpT_move rfl rfl rfl rfl) ?_
    refine Tops_nil (Tk_wkS (fr' := [(5, some (v6)), (16, some (vl1)), (17, some (vI (len l))), (18, some (vI (wi (x1 + (1 : Int)))))]) (own' := [some (rowS u8S v6 (l1 ++ packed1))]) (shr' := [Fact.sl SegS vl1 l]) [5, 16, 17, 18] [0] [0] rfl rfl rfl rfl ?_)
    exact Tk_backS (l1 ++ packed1, wi (x1 + (1 : Int)), v6) h [5, 16, 17, 18] [0] [0] rfl rfl rfl rfl rfl
   ·intro HJ1
    rcases Bool.eq_false_or_eq_true (s1.Write) with hg3 | hg3
    ·replace h := br_t hg3 h
     refine Tk_condT (congrArg (fun b => some (Value.bool b)) hg3) ?_
     refine Tk_region (Tops_step rfl (OpT_fieldC rfl rfl rfl rfl fldF44x3) ?_)
     refine Tops_step rfl (OpT_storeC (cs' := [vU64 s1.At, vU32 s1.Len, vU16 (0 : UInt16), vU16 (2 : UInt16)]) rfl rfl rfl rfl tyF36 (i := 1) rfl rfl rfl (one_of rfl) rfl) ?_
     refine Tops_nil (Tk_wkS (fr' := [(5, some (v3)), (16, some (vl1)), (17, some (vI (len l))), (18, some (vI x1)), (8, some (.pointer (some ⟨b3, 0, none⟩)))]) (own' := [some (rowS u8S v3 b1), some (cellsR b3 44 [vU64 s1.At, vU32 s1.Len, vU16 (0 : UInt16), vU16 (2 : UInt16)])]) (shr' := [Fact.sl SegS vl1 l]) [5, 16, 17, 18, 8] [0, 1] [0] rfl rfl rfl rfl ?_)
     exact Tk_jmpS (HJ1 (b1, (Packed.mk s1.At s1.Len (0 : UInt16) (2 : UInt16)), v3) h) [5, 16, 17, 18, 8] [0, 1] [0] rfl rfl rfl rfl
    ·replace h := br_f hg3 h
     refine Tk_condF (congrArg (fun b => some (Value.bool b)) hg3) ?_
     refine Tk_skip ?_
     exact Tk_jmpS (HJ1 (b1, (Packed.mk s1.At s1.Len (0 : UInt16) (0 : UInt16)), v3) h) [5, 16, 17, 18, 8] [0, 1] [0] rfl rfl rfl rfl
  ·replace h := br_f hg2 h
   refine Tk_condF (congrArg (fun b => some (Value.bool b)) hg2) ?_
   refine Tk_exit _ rfl ?_
   refine Tk_seq (Tk_region (Tops_step rfl (OpT_move rfl rfl rfl rfl) ?_))
   refine Tops_step rfl (OpT_assign rfl rfl rfl rfl) ?_
   refine Tops_step rfl (OpT_assign rfl rfl rfl rfl) ?_
   refine Tops_nil (Tk_wkS (fr' := [(2, some (v3)), (3, some (vI (0 : Int)))]) (own' := [some (rowS u8S v3 b1)]) (shr' := []) [2, 3] [0] [] rfl rfl rfl rfl ?_)
   obtain rfl := Option.some.inj h
   exact Tk_retV rfl rfl (resA (vs := [v3, vI (0 : Int)]) rfl ⟨rfl, rfl, trivial⟩) [0] [] rfl rfl rfl ⟨v3, rfl, rfl, rfl⟩

set_option maxRecDepth 100000 in
set_option maxHeartbeats 4000000 in
theorem w_ref_ReadPacked03 {b : List UInt8} {vb1 : Value} {r : (Packed × Int)} (h : ref_ReadPacked03 b = some r) :
  Ctr Try.prog 20 #[vb1] [] [Fact.sl u8S vb1 b]
   (fun rv own shr => rv = .tuple #[.agg #[vU64 r.1.Addr, vU32 r.1.Len, vU16 r.1.ID, vU16 r.1.Flags], vI r.2] ∧ own = [] ∧ shr = []) := by
 unfold ref_ReadPacked03 at h
 refine Ctr.mk (args := [vb1]) Try.func20 rfl rfl (fun R0 w0 B => ?_)
 refine Tk_seq (Tk_region (Tops_ex rfl (OpT_alloc rfl rfl rfl tyZ44) fun b1 => ?_))
 refine Tops_step rfl (OpT_assign rfl rfl rfl rfl) ?_
 refine Tops_nil (Tk_wkS (fr' := [(0, some (vb1)), (2, some (.pointer (some ⟨b1, 0, none⟩)))]) (own' := [some (cellsR b1 44 [vU64 (0 : UInt64), vU32 (0 : UInt32), vU16 (0 : UInt16), vU16 (0 : UInt16)])]) (shr' := [Fact.sl u8S vb1 b]) [0, 2] [0] [0] rfl rfl rfl rfl ?_)
 refine Tk_seq (Tk_seq (Tk_region (Tops_step rfl (OpT_move rfl rfl rfl rfl) ?_)))
 refine Tops_step rfl (OpT_lenS rfl rfl rfl rfl Try.underlying49 (i := 0) rfl) ?_
 refine Tops_step rfl (OpT_bin rfl rfl rfl rfl rfl (bin_neq_i (a := len b) (b := (16 : Int)))) ?_
 refine Tops_nil (Tk_wkS (fr' := [(0, some (vb1)), (2, some (.pointer (some ⟨b1, 0, none⟩))), (6, some (vB ((len b) != (16 : Int))))]) (own' := [some (cellsR b1 44 [vU64 (0 : UInt64), vU32 (0 : UInt32), vU16 (0 : UInt16), vU16 (0 : UInt16)])]) (shr' := [Fact.sl u8S vb1 b]) [0, 2, 6] [0] [0] rfl rfl rfl rfl ?_)
 rcases Bool.eq_false_or_eq_true ((len b) != (16 : Int)) with hg1 | hg1
 ·replace h := br_t hg1 h
  refine Tk_condT (congrArg (fun b => some (Value.bool b)) hg1) ?_
  refine Tk_seq (Tk_region (Tops_step rfl (OpT_build (v := .agg #[vU64 (0 : UInt64), vU32 (0 : UInt32), vU16 (0 : UInt16), vU16 (0 : UInt16)]) rfl rfl rfl rfl (bldV (by kernel_rfl))) ?_))
  refine Tops_step rfl (OpT_storeC (cs' := [vU64 (0 : UInt64), vU32 (0 : UInt32), vU16 (0 : UInt16), vU16 (0 : UInt16)]) rfl rfl rfl rfl tyF44 (i := 0) rfl rfl rfl (one_of rfl) rfl) ?_
  refine Tops_step rfl (OpT_assign rfl rfl rfl rfl) ?_
  refine Tops_nil (Tk_wkS (fr' := [(2, some (.pointer (some ⟨b1, 0, none⟩))), (3, some (vI (4 : Int)))]) (own' := [some (cellsR b1 44 [vU64 (0 : UInt64), vU32 (0 : UInt32), vU16 (0 : UInt16), vU16 (0 : UInt16)])]) (shr' := []) [2, 3] [0] [] rfl rfl rfl rfl ?_)
  obtain rfl := Option.some.inj h
  exact Tk_retV rfl rfl (resA (vs := [.agg #[vU64 (0 : UInt64), vU32 (0 : UInt32), vU16 (0 : UInt16), vU16 (0 : UInt16)], vI (4 : Int)]) rfl ⟨⟨_, 0, _, _, _, rfl, rfl, .inl ⟨tyF44, rfl, rfl⟩⟩, rfl, trivial⟩) [] [] rfl rfl rfl ⟨rfl, rfl, rfl⟩
 ·replace h := br_f hg1 h
  refine Tk_condF (congrArg (fun b => some (Value.bool b)) hg1) ?_
  refine Tk_skip (Tk_seq (Tk_region (Tops_step rfl (OpT_move rfl rfl rfl rfl) ?_)))
  obtain ⟨get1, hx1, h⟩ := ob_e h
  refine Tops_exP rfl (OpT_call (w_ref_get03 hx1) [] [0] rfl rfl rfl rfl rfl callee49 rfl rfl rfl rfl) ?_
  rintro _ ⟨_, _, _, ⟨rfl, rfl, rfl⟩, rfl⟩
  refine Tops_step rfl (OpT_move rfl rfl rfl rfl) ?_
  obtain ⟨get2, hx2, h⟩ := ob_e h
  refine Tops_exP rfl (OpT_call (w_ref_get03 hx2) [] [0] rfl rfl rfl rfl rfl callee49 rfl rfl rfl rfl) ?_
  rintro _ ⟨_, _, _, ⟨rfl, rfl, rfl⟩, rfl⟩
  refine Tops_step rfl (OpT_cnv rfl rfl rfl rfl (cnv_u64_u32 (n := get2) Try.underlying34 Try.underlying35)) ?_
  refine Tops_step rfl (OpT_move rfl rfl rfl rfl) ?_
  obtain ⟨get3, hx3, h⟩ := ob_e h
  refine Tops_exP rfl (OpT_call (w_ref_get03 hx3) [] [0] rfl rfl rfl rfl rfl callee49 rfl rfl rfl rfl) ?_
  rintro _ ⟨_, _, _, ⟨rfl, rfl, rfl⟩, rfl⟩
  refine Tops_step rfl (OpT_cnv rfl rfl rfl rfl (cnv_u64_u16 (n := get3) Try.underlying34 Try.underlying36)) ?_
  refine Tops_step rfl (OpT_move rfl rfl rfl rfl) ?_
  obtain ⟨get4, hx4, h⟩ := ob_e h
  refine Tops_exP rfl (OpT_call (w_ref_get03 hx4) [] [0] rfl rfl rfl rfl rfl callee49 rfl rfl rfl rfl) ?_
  rintro _ ⟨_, _, _, ⟨rfl, rfl, rfl⟩, rfl⟩
  refine Tops_step rfl (OpT_cnv rfl rfl rfl rfl (cnv_u64_u16 (n := get4) Try.underlying34 Try.underlying36)) ?_
  refine Tops_step rfl (OpT_build (v := .agg #[vU64 get1, vU32 get2.toUInt32, vU16 get3.toUInt16, vU16 get4.toUInt16]) rfl rfl rfl rfl (bldV (by kernel_rfl))) ?_
  refine Tops_step rfl (OpT_storeC (cs' := [vU64 get1, vU32 get2.toUInt32, vU16 get3.toUInt16, vU16 get4.toUInt16]) rfl rfl rfl rfl tyF44 (i := 0) rfl rfl rfl (one_of rfl) rfl) ?_
  refine Tops_step rfl (OpT_assign rfl rfl rfl rfl) ?_
  refine Tops_nil (Tk_wkS (fr' := [(2, some (.pointer (some ⟨b1, 0, none⟩))), (3, some (vI (0 : Int)))]) (own' := [some (cellsR b1 44 [vU64 get1, vU32 get2.toUInt32, vU16 get3.toUInt16, vU16 get4.toUInt16])]) (shr' := []) [2, 3] [0] [] rfl rfl rfl rfl ?_)
  obtain rfl := Option.some.inj h
  exact Tk_retV rfl rfl (resA (vs := [.agg #[vU64 get1, vU32 get2.toUInt32, vU16 get3.toUInt16, vU16 get4.toUInt16], vI (0 : Int)]) rfl ⟨⟨_, 0, _, _, _, rfl, rfl, .inl ⟨tyF44, rfl, rfl⟩⟩, rfl, trivial⟩) [] [] rfl rfl rfl ⟨rfl, rfl, rfl⟩

set_option maxRecDepth 100000 in
set_option maxHeartbeats 4000000 in
theorem w_kit_Pick {np0 : Int} {m : Int} {r : Int} (h : kit_Pick np0 m = some r) :
  Ctr Try.prog 15 #[vI np0, vI m] [] []
   (fun rv own shr => rv = vI r ∧ own = [] ∧ shr = []) := by
 unfold kit_Pick at h
 refine Ctr.mk (args := [vI np0, vI m]) Try.func15 rfl rfl (fun R0 w0 B => ?_)
 refine Tk_seq (Tk_region (Tops_step rfl (OpT_assign rfl rfl rfl rfl) ?_))
 refine Tops_nil (Tk_wkS (fr' := [(0, some (vI np0)), (1, some (vI m))]) (own' := []) (shr' := []) [0, 1] [] [] rfl rfl rfl rfl ?_)
 refine Tk_seq (Tk_seq (Tk_region (Tops_step rfl (OpT_move rfl rfl rfl rfl) ?_)))
 refine Tops_step rfl (OpT_bin rfl rfl rfl rfl rfl (bin_lss_i (a := m) (b := (1 : Int)))) ?_
 refine Tops_nil (Tk_wkS (fr' := [(0, some (vI np0)), (1, some (vI m)), (6, some (vB (decide (m < (1 : Int)))))]) (own' := []) (shr' := []) [0, 1, 6] [] [] rfl rfl rfl rfl ?_)
 rcases Bool.eq_false_or_eq_true (decide (m < (1 : Int))) with hg1 | hg1
 ·replace h := br_t hg1 h
  refine Tk_condT (congrArg (fun b => some (Value.bool b)) hg1) ?_
  refine Tk_seq (Tk_region (Tops_step rfl (OpT_assign rfl rfl rfl rfl) ?_))
  refine Tops_nil (Tk_wkS (fr' := [(4, some (vI (0 : Int)))]) (own' := []) (shr' := []) [4] [] [] rfl rfl rfl rfl ?_)
  obtain rfl := Option.some.inj h
  exact Tk_retV rfl rfl (resA (vs := [vI (0 : Int)]) rfl ⟨rfl, trivial⟩) [] [] rfl rfl rfl ⟨rfl, rfl, rfl⟩
 ·replace h := br_f hg1 h
  refine Tk_condF (congrArg (fun b => some (Value.bool b)) hg1) ?_
  refine Tk_skip (Tk_seq (Tk_region (Tops_step rfl (OpT_move rfl rfl rfl rfl) ?_)))
  refine Tops_step rfl (OpT_move rfl rfl rfl rfl) ?_
  obtain ⟨hc1, h⟩ := chk_e h
  refine Tops_step rfl (OpT_bin rfl rfl rfl rfl rfl (bin_rem_i (a := np0) (b := m) (not_t hc1))) ?_
  refine Tops_step rfl (OpT_assign rfl rfl rfl rfl) ?_
  refine Tops_nil (Tk_wkS (fr' := [(0, some (vI (remi np0 m))), (1, some (vI m))]) (own' := []) (shr' := []) [0, 1] [] [] rfl rfl rfl rfl ?_)
  refine Tk_seq (Tk_seq (Tk_region (Tops_step rfl (OpT_move rfl rfl rfl rfl) ?_)))
  refine Tops_step rfl (OpT_bin rfl rfl rfl rfl rfl (bin_lss_i (a := remi np0 m) (b := (0 : Int)))) ?_
  refine Tops_nil (Tk_wkS (fr' := [(0, some (vI (remi np0 m))), (1, some (vI m)), (11, some (vB (decide ((remi np0 m) < (0 : Int)))))]) (own' := []) (shr' := []) [0, 1, 11] [] [] rfl rfl rfl rfl ?_)
  rcases Bool.eq_false_or_eq_true (decide ((remi np0 m) < (0 : Int))) with hg2 | hg2
  ·replace h := br_t hg2 h
   refine Tk_condT (congrArg (fun b => some (Value.bool b)) hg2) ?_
   refine Tk_region (Tops_step rfl (OpT_move rfl rfl rfl rfl) ?_)
   refine Tops_step rfl (OpT_move rfl rfl rfl rfl) ?_
   refine Tops_step rfl (OpT_bin rfl rfl rfl rfl rfl (bin_add_i (a := remi np0 m) (b := m))) ?_
   refine Tops_step rfl (OpT_assign rfl rfl rfl rfl) ?_
   refine Tops_nil (Tk_wkS (fr' := [(0, some (vI (wi ((remi np0 m) + m))))]) (own' := []) (shr' := []) [0] [] [] rfl rfl rfl rfl ?_)
   refine Tk_seq (Tk_region (Tops_step rfl (OpT_move rfl rfl rfl rfl) ?_))
   refine Tops_step rfl (OpT_assign rfl rfl rfl rfl) ?_
   refine Tops_nil (Tk_wkS (fr' := [(4, some (vI (wi ((remi np0 m) + m))))]) (own' := []) (shr' := []) [4] [] [] rfl rfl rfl rfl ?_)
   obtain rfl := Option.some.inj h
   exact Tk_retV rfl rfl (resA (vs := [vI (wi ((remi np0 m) + m))]) rfl ⟨rfl, trivial⟩) [] [] rfl rfl rfl ⟨rfl, rfl, rfl⟩
  ·replace h := br_f hg2 h
   refine Tk_condF (congrArg (fun b => some (Value.bool b)) hg2) ?_
   refine Tk_skip (Tk_seq (Tk_region (Tops_step rfl (OpT_move rfl rfl rfl rfl) ?_)))
   refine Tops_step rfl (OpT_assign rfl rfl rfl rfl) ?_
   refine Tops_nil (Tk_wkS (fr' := [(4, some (vI (remi np0 m)))]) (own' := []) (shr' := []) [4] [] [] rfl rfl rfl rfl ?_)
   obtain rfl := Option.some.inj h
   exact Tk_retV rfl rfl (resA (vs := [vI (remi np0 m)]) rfl ⟨rfl, trivial⟩) [] [] rfl rfl rfl ⟨rfl, rfl, rfl⟩

set_option maxRecDepth 100000 in
set_option maxHeartbeats 4000000 in
theorem w_law09zBuildTells_1 {ip0 : Int} {f : UInt16} {arg2 : List Seg} {b_arg2 : Nat} {varg21 : Value} {r : Bool} (h : law09zBuildTells_1 ip0 f arg2 = some r) :
  Ctr Try.prog 17 #[vI ip0, vU16 f, .pointer (some ⟨b_arg2, 0, none⟩)] [(cellsR b_arg2 27 [varg21])] [Fact.sl SegS varg21 arg2]
   (fun rv own shr => rv = vB r ∧ own = [(cellsR b_arg2 27 [varg21])] ∧ shr = []) := by
 unfold law09zBuildTells_1 at h
 refine Ctr.mk (args := [vI ip0, vU16 f, .pointer (some ⟨b_arg2, 0, none⟩)]) Try.func17 rfl rfl (fun R0 w0 B => ?_)
 refine Tk_seq (Tk_region (Tops_step rfl (OpT_assign rfl rfl rfl rfl) ?_))
 refine Tops_nil (Tk_wkS (fr' := [(0, some (vI ip0)), (1, some (vU16 f)), (2, some (.pointer (some ⟨b_arg2, 0, none⟩)))]) (own' := [some (cellsR b_arg2 27 [varg21])]) (shr' := [Fact.sl SegS varg21 arg2]) [0, 1, 2] [0] [0] rfl rfl rfl rfl ?_)
 refine Tk_seq (Tk_region (Tops_step rfl (OpT_move rfl rfl rfl rfl) ?_))
 refine Tops_step rfl (OpT_bin rfl rfl rfl rfl rfl (bin_and_u16 (a := f) (b := (2 : UInt16)))) ?_
 refine Tops_step rfl (OpT_bin rfl rfl rfl rfl rfl (bin_neq_u16 (a := f &&& (2 : UInt16)) (b := (0 : UInt16)))) ?_
 refine Tops_step rfl (OpT_loadC rfl rfl rfl rfl tyF27 (i := 0) rfl rfl) ?_
 refine Tops_step rfl (OpT_move rfl rfl rfl rfl) ?_
 obtain ⟨s1, hx1, h⟩ := ob_e h
 refine Tops_ex rfl (OpT_idxS rfl rfl rfl rfl rfl slF27 (i := 0) rfl hx1) fun p1 => ?_
 refine Tops_ex rfl (OpT_fieldP (S' := bS) (y := s1.Write) rfl rfl rfl rfl fldF59x2 (i := 1) rfl (by intro h cs hr; subst hr; rfl)) fun p2 => ?_
 refine Tops_step rfl (OpT_loadP rfl rfl rfl rfl tyF4 (i := 2) rfl rfl) ?_
 refine Tops_step rfl (OpT_bin rfl rfl rfl rfl rfl (bin_eql_b (a := (f &&& (2 : UInt16)) != (0 : UInt16)) (b := s1.Write) Try.underlying4)) ?_
 refine Tops_step rfl (OpT_move rfl rfl rfl rfl) ?_
 rcases Bool.eq_false_or_eq_true (((f &&& (2 : UInt16)) != (0 : UInt16)) == s1.Write) with hg1 | hg1
 ·replace h := br_t hg1 h
  refine Tops_yes rfl rfl (congrArg (fun b => some (Value.bool b)) hg1) (OpT_move rfl rfl rfl rfl) ?_
  rintro _ rfl
  refine Tops_yes rfl rfl (congrArg (fun b => some (Value.bool b)) hg1) (OpT_bin rfl rfl rfl rfl rfl (bin_and_u16 (a := f) (b := (1 : UInt16)))) ?_
  rintro _ rfl
  refine Tops_yes rfl rfl (congrArg (fun b => some (Value.bool b)) hg1) (OpT_bin rfl rfl rfl rfl rfl (bin_neq_u16 (a := f &&& (1 : UInt16)) (b := (0 : UInt16)))) ?_
  rintro _ rfl
  refine Tops_yes rfl rfl (congrArg (fun b => some (Value.bool b)) hg1) (OpT_move rfl rfl rfl rfl) ?_
  rintro _ rfl
  refine Tops_yes rfl rfl (congrArg (fun b => some (Value.bool b)) hg1) (OpT_bin rfl rfl rfl rfl rfl (bin_add_i (a := ip0) (b := (1 : Int)))) ?_
  rintro _ rfl
  refine Tops_yes rfl rfl (congrArg (fun b => some (Value.bool b)) hg1) (OpT_loadC rfl rfl rfl rfl tyF27 (i := 0) rfl rfl) ?_
  rintro _ rfl
  refine Tops_yes rfl rfl (congrArg (fun b => some (Value.bool b)) hg1) (OpT_lenS rfl rfl rfl rfl Try.underlying27 (i := 0) rfl) ?_
  rintro _ rfl
  refine Tops_yes rfl rfl (congrArg (fun b => some (Value.bool b)) hg1) (OpT_bin rfl rfl rfl rfl rfl (bin_lss_i (a := wi (ip0 + (1 : Int))) (b := len arg2))) ?_
  rintro _ rfl
  refine Tops_yes rfl rfl (congrArg (fun b => some (Value.bool b)) hg1) (OpT_bin rfl rfl rfl rfl rfl (bin_eql_b (a := (f &&& (1 : UInt16)) != (0 : UInt16)) (b := decide ((wi (ip0 + (1 : Int))) < (len arg2))) Try.underlying4)) ?_
  rintro _ rfl
  refine Tops_step rfl (OpT_pickT rfl rfl rfl (congrArg (fun b => some (Value.bool b)) hg1) rfl) ?_
  refine Tops_step rfl (OpT_move rfl rfl rfl rfl) ?_
  rcases Bool.eq_false_or_eq_true (((f &&& (1 : UInt16)) != (0 : UInt16)) == (decide ((wi (ip0 + (1 : Int))) < (len arg2)))) with hg2 | hg2
  ·replace h := br_t hg2 h
   refine Tops_yes rfl rfl (congrArg (fun b => some (Value.bool b)) hg2) (OpT_move rfl rfl rfl rfl) ?_
   rintro _ rfl
   refine Tops_yes rfl rfl (congrArg (fun b => some (Value.bool b)) hg2) (OpT_bin rfl rfl rfl rfl rfl (bin_and_u16 (a := f) (b := (4 : UInt16)))) ?_
   rintro _ rfl
   refine Tops_yes rfl rfl (congrArg (fun b => some (Value.bool b)) hg2) (OpT_bin rfl rfl rfl rfl rfl (bin_eql_u16 (a := f &&& (4 : UInt16)) (b := (0 : UInt16)))) ?_
   rintro _ rfl
   refine Tops_step rfl (OpT_pickT rfl rfl rfl (congrArg (fun b => some (Value.bool b)) hg2) rfl) ?_
   refine Tops_step rfl (OpT_assign rfl rfl rfl rfl) ?_
   refine Tops_nil (Tk_wkS (fr' := [(5, some (vB ((f &&& (4 : UInt16)) == (0 : UInt16))))]) (own' := [some (cellsR b_arg2 27 [varg21])]) (shr' := [Fact.sl SegS varg21 arg2]) [5] [0] [0] rfl rfl rfl rfl ?_)
   obtain rfl := Option.some.inj h
   exact Tk_retV rfl rfl (resA (vs := [vB ((f &&& (4 : UInt16)) == (0 : UInt16))]) rfl ⟨rfl, trivial⟩) [0] [] rfl rfl rfl ⟨rfl, rfl, rfl⟩
  ·replace h := br_f hg2 h
   refine Tops_no rfl rfl (congrArg (fun b => some (Value.bool b)) hg2) rfl rfl ?_
   refine Tops_no rfl rfl (congrArg (fun b => some (Value.bool b)) hg2) rfl rfl ?_
   refine Tops_no rfl rfl (congrArg (fun b => some (Value.bool b)) hg2) rfl rfl ?_
   refine Tops_step rfl (OpT_pickF rfl rfl rfl (congrArg (fun b => some (Value.bool b)) hg2) rfl) ?_
   refine Tops_step rfl (OpT_assign rfl rfl rfl rfl) ?_
   refine Tops_nil (Tk_wkS (fr' := [(5, some (vB false))]) (own' := [some (cellsR b_arg2 27 [varg21])]) (shr' := [Fact.sl SegS varg21 arg2]) [5] [0] [0] rfl rfl rfl rfl ?_)
   obtain rfl := Option.some.inj h
   exact Tk_retV rfl rfl (resA (vs := [vB false]) rfl ⟨rfl, trivial⟩) [0] [] rfl rfl rfl ⟨rfl, rfl, rfl⟩
 ·replace h := br_f hg1 h
  refine Tops_no rfl rfl (congrArg (fun b => some (Value.bool b)) hg1) rfl rfl ?_
  refine Tops_no rfl rfl (congrArg (fun b => some (Value.bool b)) hg1) rfl rfl ?_
  refine Tops_no rfl rfl (congrArg (fun b => some (Value.bool b)) hg1) rfl rfl ?_
  refine Tops_no rfl rfl (congrArg (fun b => some (Value.bool b)) hg1) rfl rfl ?_
  refine Tops_no rfl rfl (congrArg (fun b => some (Value.bool b)) hg1) rfl rfl ?_
  refine Tops_no rfl rfl (congrArg (fun b => some (Value.bool b)) hg1) rfl rfl ?_
  refine Tops_no rfl rfl (congrArg (fun b => some (Value.bool b)) hg1) rfl rfl ?_
  refine Tops_no rfl rfl (congrArg (fun b => some (Value.bool b)) hg1) rfl rfl ?_
  refine Tops_no rfl rfl (congrArg (fun b => some (Value.bool b)) hg1) rfl rfl ?_
  refine Tops_step rfl (OpT_pickF rfl rfl rfl (congrArg (fun b => some (Value.bool b)) hg1) rfl) ?_
  refine Tops_step rfl (OpT_move rfl rfl rfl rfl) ?_
  refine Tops_no rfl rfl rfl rfl rfl ?_
  refine Tops_no rfl rfl rfl rfl rfl ?_
  refine Tops_no rfl rfl rfl rfl rfl ?_
  refine Tops_step rfl (OpT_pickF rfl rfl rfl rfl rfl) ?_
  refine Tops_step rfl (OpT_assign rfl rfl rfl rfl) ?_
  refine Tops_nil (Tk_wkS (fr' := [(5, some (vB false))]) (own' := [some (cellsR b_arg2 27 [varg21])]) (shr' := [Fact.sl SegS varg21 arg2]) [5] [0] [0] rfl rfl rfl rfl ?_)
  obtain rfl := Option.some.inj h
  exact Tk_retV rfl rfl (resA (vs := [vB false]) rfl ⟨rfl, trivial⟩) [0] [] rfl rfl rfl ⟨rfl, rfl, rfl⟩

set_option maxRecDepth 100000 in
set_option maxHeartbeats 4000000 in
theorem w_ref_Avail03 {flags : UInt16} {wrap : Bool} {r : Bool} (h : ref_Avail03 flags wrap = some r) :
  Ctr Try.prog 19 #[vU16 flags, vB wrap] [] []
   (fun rv own shr => rv = vB r ∧ own = [] ∧ shr = []) := by
 unfold ref_Avail03 at h
 refine Ctr.mk (args := [vU16 flags, vB wrap]) Try.func19 rfl rfl (fun R0 w0 B => ?_)
 refine Tk_seq (Tk_region (Tops_step rfl (OpT_assign rfl rfl rfl rfl) ?_))
 refine Tops_nil (Tk_wkS (fr' := [(0, some (vU16 flags)), (1, some (vB wrap))]) (own' := []) (shr' := []) [0, 1] [] [] rfl rfl rfl rfl ?_)
 refine Tk_seq (Tk_region (Tops_step rfl (OpT_move rfl rfl rfl rfl) ?_))
 refine Tops_step rfl (OpT_bin rfl rfl rfl rfl rfl (bin_and_u16 (a := flags) (b := (128 : UInt16)))) ?_
 refine Tops_step rfl (OpT_bin rfl rfl rfl rfl rfl (bin_neq_u16 (a := flags &&& (128 : UInt16)) (b := (0 : UInt16)))) ?_
 refine Tops_step rfl (OpT_move rfl rfl rfl rfl) ?_
 refine Tops_step rfl (OpT_bin rfl rfl rfl rfl rfl (bin_eql_b (a := (flags &&& (128 : UInt16)) != (0 : UInt16)) (b := wrap) Try.underlying4)) ?_
 refine Tops_step rfl (OpT_move rfl rfl rfl rfl) ?_
 rcases Bool.eq_false_or_eq_true (((flags &&& (128 : UInt16)) != (0 : UInt16)) == wrap) with hg1 | hg1
 ·replace h := br_t hg1 h
  refine Tops_yes rfl rfl (congrArg (fun b => some (Value.bool b)) hg1) (OpT_move rfl rfl rfl rfl) ?_
  rintro _ rfl
  refine Tops_yes rfl rfl (congrArg (fun b => some (Value.bool b)) hg1) (OpT_bin rfl rfl rfl rfl rfl (bin_and_u16 (a := flags) (b := (32768 : UInt16)))) ?_
  rintro _ rfl
  refine Tops_yes rfl rfl (congrArg (fun b => some (Value.bool b)) hg1) (OpT_bin rfl rfl rfl rfl rfl (bin_neq_u16 (a := flags &&& (32768 : UInt16)) (b := (0 : UInt16)))) ?_
  rintro _ rfl
  refine Tops_yes rfl rfl (congrArg (fun b => some (Value.bool b)) hg1) (OpT_move rfl rfl rfl rfl) ?_
  rintro _ rfl
  refine Tops_yes rfl rfl (congrArg (fun b => some (Value.bool b)) hg1) (OpT_bin rfl rfl rfl rfl rfl (bin_neq_b (a := (flags &&& (32768 : UInt16)) != (0 : UInt16)) (b := wrap) Try.underlying4)) ?_
  rintro _ rfl
  refine Tops_step rfl (OpT_pickT rfl rfl rfl (congrArg (fun b => some (Value.bool b)) hg1) rfl) ?_
  refine Tops_step rfl (OpT_assign rfl rfl rfl rfl) ?_
  refine Tops_nil (Tk_wkS (fr' := [(4, some (vB (((flags &&& (32768 : UInt16)) != (0 : UInt16)) != wrap)))]) (own' := []) (shr' := []) [4] [] [] rfl rfl rfl rfl ?_)
  obtain rfl := Option.some.inj h
  exact Tk_retV rfl rfl (resA (vs := [vB (((flags &&& (32768 : UInt16)) != (0 : UInt16)) != wrap)]) rfl ⟨rfl, trivial⟩) [] [] rfl rfl rfl ⟨rfl, rfl, rfl⟩
 ·replace h := br_f hg1 h
  refine Tops_no rfl rfl (congrArg (fun b => some (Value.bool b)) hg1) rfl rfl ?_
  refine Tops_no rfl rfl (congrArg (fun b => some (Value.bool b)) hg1) rfl rfl ?_
  refine Tops_no rfl rfl (congrArg (fun b => some (Value.bool b)) hg1) rfl rfl ?_
  refine Tops_no rfl rfl (congrArg (fun b => some (Value.bool b)) hg1) rfl rfl ?_
  refine Tops_no rfl rfl (congrArg (fun b => some (Value.bool b)) hg1) rfl rfl ?_
  refine Tops_step rfl (OpT_pickF rfl rfl rfl (congrArg (fun b => some (Value.bool b)) hg1) rfl) ?_
  refine Tops_step rfl (OpT_assign rfl rfl rfl rfl) ?_
  refine Tops_nil (Tk_wkS (fr' := [(4, some (vB false))]) (own' := []) (shr' := []) [4] [] [] rfl rfl rfl rfl ?_)
  obtain rfl := Option.some.inj h
  exact Tk_retV rfl rfl (resA (vs := [vB false]) rfl ⟨rfl, trivial⟩) [] [] rfl rfl rfl ⟨rfl, rfl, rfl⟩

end Go.Proofs.Ytihcimjfabdafaa
