/- The functions do what the plain words say: each is walked once. No statement of the seat is proved here; no condition. -/
import Derived.Test.YtamdpkddehhocaaMo1
import Derived.Test.YtamdpkddehhocaaFc
namespace Go.Proofs.Ytamdpkddehhocaa

set_option maxRecDepth 100000 in
set_option maxHeartbeats 4000000 in
theorem w_desc_raw_put {r0_ : List UInt8} {at1_ : Int} {n : Int} {v : UInt64} {b_r0_ : Nat} {r : (List UInt8)} (h : desc_raw_put r0_ at1_ n v = some r) :
    Ctr Try.prog 38 #[.pointer (some ⟨b_r0_, 0, none⟩), vI at1_, vI n, vU64 v] [(cellsR b_r0_ 60 (r0_.map vU8))] []
      (fun rv own shr => rv = .tuple #[] ∧ own = [(cellsR b_r0_ 60 (r.map vU8))] ∧ shr = []) := by
  unfold desc_raw_put at h
  refine Ctr.mk (args := [.pointer (some ⟨b_r0_, 0, none⟩), vI at1_, vI n, vU64 v]) Try.func38 rfl rfl (fun R0 w0 B => ?_)
  refine Tk_seq ?_
  refine Tk_region ?_
  refine Tops_step rfl (OpT_move rfl rfl rfl rfl) ?_
  refine Tops_step rfl (OpT_move rfl rfl rfl rfl) ?_
  refine Tops_nil ?_
  refine Tk_wk (fr' := [(0, some (.pointer (some ⟨b_r0_, 0, none⟩))), (1, some (vI at1_)), (3, some (vU64 v)), (9, some (vI n)), (10, some (vI (0 : Int)))]) (own' := [some (cellsR b_r0_ 60 (r0_.map vU8))]) (shr' := []) [0] [] rfl ⟨fun _ h => h, fun _ h => h, fun _ h => h, fun _ h => h, fun _ h => h, trivial⟩ rfl rfl ?_
  refine Tk_block ?_
  refine Tk_wk [0] [] rfl ?hf rfl rfl (Tk_loop (σ := (List UInt8) × Int) (fun s => ⟨[(0, some (.pointer (some ⟨b_r0_, 0, none⟩))), (1, some (vI at1_)), (3, some (vU64 v)), (9, some (vI n)), (10, some (vI s.2))], [some (cellsR b_r0_ 60 (s.1.map vU8))], []⟩) (fun nf s => desc_raw_put_L1 at1_ n v nf s.1 s.2 = some r) (fun s h => by cases h) ?hr fuel (r0_, (0 : Int)) h)
  case hf => exact ⟨fun _ h => h, fun _ h => h, fun _ h => h, fun _ h => h, fun _ h => h, trivial⟩
  rintro nf ⟨m1, x1⟩ h
  replace h : desc_raw_put_L1B at1_ n v (desc_raw_put_L1 at1_ n v nf) m1 x1 = some r := h
  unfold desc_raw_put_L1B at h
  refine Tk_seq ?_
  refine Tk_region ?_
  refine Tops_step rfl (OpT_bin rfl rfl rfl rfl rfl (bin_lss_i (a := x1) (b := n))) ?_
  refine Tops_nil ?_
  refine Tk_seq ?_
  rcases Bool.eq_false_or_eq_true (decide (x1 < n)) with hg1 | hg1
  · replace h := br_t hg1 h
    refine Tk_condT (congrArg (fun b => some (Value.bool b)) hg1) ?_
    refine Tk_skip ?_
    refine Tk_seq ?_
    refine Tk_block ?_
    refine Tk_seq ?_
    refine Tk_region ?_
    refine Tops_step rfl (OpT_move rfl rfl rfl rfl) ?_
    refine Tops_step rfl (OpT_assign rfl rfl rfl rfl) ?_
    refine Tops_nil ?_
    refine Tk_wk (fr' := [(0, some (.pointer (some ⟨b_r0_, 0, none⟩))), (1, some (vI at1_)), (3, some (vU64 v)), (9, some (vI n)), (10, some (vI x1)), (8, some (vI x1))]) (own' := [some (cellsR b_r0_ 60 (m1.map vU8))]) (shr' := []) [0] [] rfl ⟨fun _ h => h, fun _ h => h, fun _ h => h, fun _ h => h, fun _ h => h, fun _ h => h, trivial⟩ rfl rfl ?_
    obtain ⟨hc1, h⟩ := chk_e h
    obtain ⟨hc2, h⟩ := chk_e h
    obtain ⟨hc3, h⟩ := chk_e h
    refine Tk_drawC (by kernel_rfl) [([], [9, 10, 11]), ([], [3, 10, 11]), ([], [3, 10, 11]), ([1, 2], [10, 11]), ([], [7, 8, 10, 11]), ([], [6, 7, 8, 10, 11]), ([5], [7, 8, 10, 11]), ([4, 5, 6], [8, 10, 11]), ([4, 5, 6, 7], [10, 11]), ([0], [10, 11]), ([0, 1, 2, 3, 4, 5, 6, 7, 8, 9], [11]), ([0, 1, 2, 3, 4, 5, 6, 7, 8, 9, 10], [])] (by kernel_rfl) (fun c L a w => Sat c ⟨[(0, some (.pointer (some ⟨b_r0_, 0, none⟩))), (1, some (vI at1_)), (3, some (vU64 v)), (9, some (vI n)), (10, some (vI x1)), (8, some (vI x1)), (13, bif L 0 then some (.pointer (some ⟨b_r0_, 0, none⟩)) else none), (14, bif L 1 then some (vI at1_) else none), (15, bif L 2 then some (vI x1) else none), (16, bif L 3 then some (vI (wi (at1_ + x1))) else none), (17, bif L 4 then some (vU64 v) else none), (18, bif L 5 then some (vI x1) else none), (19, bif L 6 then some (vI (wi ((8 : Int) * x1))) else none), (20, bif L 7 then some (vU64 (shr64 v ((wi ((8 : Int) * x1)).toNat))) else none), (21, bif L 8 then some (vU8 ((shr64 v ((wi ((8 : Int) * x1)).toNat)).toUInt8)) else none), (22, bif L 9 then some (.pointer (some ⟨b_r0_, 0, none⟩)) else none), (23, bif L 10 then some (.pointer (some ⟨b_r0_, 0 + Int.toNat (wi (at1_ + x1)) * 1, none⟩)) else none)], [(bif L 11 then some (cellsR b_r0_ 60 ((m1.set (wi (at1_ + x1)).toNat ((shr64 v ((wi ((8 : Int) * x1)).toNat)).toUInt8)).map vU8)) else some (cellsR b_r0_ 60 (m1.map vU8)) : Option Res)], []⟩ a w) ?_ (steps_cons ?_ (steps_cons ?_ (steps_cons ?_ (steps_cons ?_ (steps_cons ?_ (steps_cons ?_ (steps_cons ?_ (steps_cons ?_ (steps_cons ?_ (steps_cons ?_ (steps_cons ?_ (steps_cons ?_ (steps_nil))))))))))))) ?_
    · intro a w hs
      exact hs.wk [0] [] rfl ⟨fun _ h => h, fun _ h => h, fun _ h => h, fun _ h => h, fun _ h => h, fun _ h => h, fun _ h => h, fun _ h => h, fun _ h => h, fun _ h => h, fun _ h => h, fun _ h => h, fun _ h => h, fun _ h => h, fun _ h => h, fun _ h => h, fun _ h => h, trivial⟩ rfl rfl
    · intro L a w hv K Q hK
      have hs := hv
      refine wpOp_go rfl rfl hs (OpT_move rfl rfl rfl rfl) ?_
      rintro _ rfl a' w' hs'
      exact hK a' w' (hs'.wk [0] [] rfl ⟨fun _ h => h, fun _ h => h, fun _ h => h, fun _ h => h, fun _ h => h, fun _ h => h, fun _ h => h, fun _ h => h, fun _ h => h, fun _ h => h, fun _ h => h, fun _ h => h, fun _ h => h, fun _ h => h, fun _ h => h, fun _ h => h, fun _ h => h, trivial⟩ rfl rfl)
    · intro L a w hv K Q hK
      have hs := hv
      refine wpOp_go rfl rfl hs (OpT_move rfl rfl rfl rfl) ?_
      rintro _ rfl a' w' hs'
      exact hK a' w' (hs'.wk [0] [] rfl ⟨fun _ h => h, fun _ h => h, fun _ h => h, fun _ h => h, fun _ h => h, fun _ h => h, fun _ h => h, fun _ h => h, fun _ h => h, fun _ h => h, fun _ h => h, fun _ h => h, fun _ h => h, fun _ h => h, fun _ h => h, fun _ h => h, fun _ h => h, trivial⟩ rfl rfl)
    · intro L a w hv K Q hK
      have hs := hv
      refine wpOp_go rfl rfl hs (OpT_move rfl rfl rfl rfl) ?_
      rintro _ rfl a' w' hs'
      exact hK a' w' (hs'.wk [0] [] rfl ⟨fun _ h => h, fun _ h => h, fun _ h => h, fun _ h => h, fun _ h => h, fun _ h => h, fun _ h => h, fun _ h => h, fun _ h => h, fun _ h => h, fun _ h => h, fun _ h => h, fun _ h => h, fun _ h => h, fun _ h => h, fun _ h => h, fun _ h => h, trivial⟩ rfl rfl)
    · intro L a w hv K Q hK
      have hs := hv
      refine wpOp_go rfl rfl hs (OpT_bin rfl rfl rfl rfl rfl (bin_add_i (a := at1_) (b := x1))) ?_
      rintro _ rfl a' w' hs'
      exact hK a' w' (hs'.wk [0] [] rfl ⟨fun _ h => h, fun _ h => h, fun _ h => h, fun _ h => h, fun _ h => h, fun _ h => h, fun _ h => h, fun _ h => h, fun _ h => h, fun _ h => h, fun _ h => h, fun _ h => h, fun _ h => h, fun _ h => h, fun _ h => h, fun _ h => h, fun _ h => h, trivial⟩ rfl rfl)
    · intro L a w hv K Q hK
      have hs := hv
      refine wpOp_go rfl rfl hs (OpT_move rfl rfl rfl rfl) ?_
      rintro _ rfl a' w' hs'
      exact hK a' w' (hs'.wk [0] [] rfl ⟨fun _ h => h, fun _ h => h, fun _ h => h, fun _ h => h, fun _ h => h, fun _ h => h, fun _ h => h, fun _ h => h, fun _ h => h, fun _ h => h, fun _ h => h, fun _ h => h, fun _ h => h, fun _ h => h, fun _ h => h, fun _ h => h, fun _ h => h, trivial⟩ rfl rfl)
    · intro L a w hv K Q hK
      have hs := hv
      refine wpOp_go rfl rfl hs (OpT_move rfl rfl rfl rfl) ?_
      rintro _ rfl a' w' hs'
      exact hK a' w' (hs'.wk [0] [] rfl ⟨fun _ h => h, fun _ h => h, fun _ h => h, fun _ h => h, fun _ h => h, fun _ h => h, fun _ h => h, fun _ h => h, fun _ h => h, fun _ h => h, fun _ h => h, fun _ h => h, fun _ h => h, fun _ h => h, fun _ h => h, fun _ h => h, fun _ h => h, trivial⟩ rfl rfl)
    · intro L a w hv K Q hK
      have hs := hv
      refine wpOp_go rfl rfl hs (OpT_bin rfl rfl rfl rfl rfl (bin_mul_i (a := (8 : Int)) (b := x1))) ?_
      rintro _ rfl a' w' hs'
      exact hK a' w' (hs'.wk [0] [] rfl ⟨fun _ h => h, fun _ h => h, fun _ h => h, fun _ h => h, fun _ h => h, fun _ h => h, fun _ h => h, fun _ h => h, fun _ h => h, fun _ h => h, fun _ h => h, fun _ h => h, fun _ h => h, fun _ h => h, fun _ h => h, fun _ h => h, fun _ h => h, trivial⟩ rfl rfl)
    · intro L a w hv K Q hK
      have hs := hv
      refine wpOp_go rfl rfl hs (OpT_bin rfl rfl rfl rfl rfl (bin_shr_u64_i64 (a := v) (n := wi ((8 : Int) * x1)) hc1)) ?_
      rintro _ rfl a' w' hs'
      exact hK a' w' (hs'.wk [0] [] rfl ⟨fun _ h => h, fun _ h => h, fun _ h => h, fun _ h => h, fun _ h => h, fun _ h => h, fun _ h => h, fun _ h => h, fun _ h => h, fun _ h => h, fun _ h => h, fun _ h => h, fun _ h => h, fun _ h => h, fun _ h => h, fun _ h => h, fun _ h => h, trivial⟩ rfl rfl)
    · intro L a w hv K Q hK
      have hs := hv
      refine wpOp_go rfl rfl hs (OpT_cnv rfl rfl rfl rfl (cnv_u64_u8 (n := shr64 v ((wi ((8 : Int) * x1)).toNat)) Try.underlying26 Try.underlying5)) ?_
      rintro _ rfl a' w' hs'
      exact hK a' w' (hs'.wk [0] [] rfl ⟨fun _ h => h, fun _ h => h, fun _ h => h, fun _ h => h, fun _ h => h, fun _ h => h, fun _ h => h, fun _ h => h, fun _ h => h, fun _ h => h, fun _ h => h, fun _ h => h, fun _ h => h, fun _ h => h, fun _ h => h, fun _ h => h, fun _ h => h, trivial⟩ rfl rfl)
    · intro L a w hv K Q hK
      have hs := hv
      refine wpOp_go rfl rfl hs (OpT_nilCheckP rfl rfl rfl rfl) ?_
      rintro _ rfl a' w' hs'
      exact hK a' w' (hs'.wk [0] [] rfl ⟨fun _ h => h, fun _ h => h, fun _ h => h, fun _ h => h, fun _ h => h, fun _ h => h, fun _ h => h, fun _ h => h, fun _ h => h, fun _ h => h, fun _ h => h, fun _ h => h, fun _ h => h, fun _ h => h, fun _ h => h, fun _ h => h, fun _ h => h, trivial⟩ rfl rfl)
    · intro L a w hv K Q hK
      have hs := hv
      refine wpOp_go rfl rfl hs (OpT_indexC rfl rfl rfl rfl rfl arrF60 hc2) ?_
      rintro _ rfl a' w' hs'
      exact hK a' w' (hs'.wk [0] [] rfl ⟨fun _ h => h, fun _ h => h, fun _ h => h, fun _ h => h, fun _ h => h, fun _ h => h, fun _ h => h, fun _ h => h, fun _ h => h, fun _ h => h, fun _ h => h, fun _ h => h, fun _ h => h, fun _ h => h, fun _ h => h, fun _ h => h, fun _ h => h, trivial⟩ rfl rfl)
    · intro L a w hv K Q hK
      have hs := hv
      refine wpOp_go rfl rfl hs (OpT_storeLA (f := vU8) (u := (shr64 v ((wi ((8 : Int) * x1)).toNat)).toUInt8) rfl rfl rfl rfl tyF5 (i := 0) rfl (fun _ => ⟨rfl, rfl⟩) hc3) ?_
      rintro _ rfl a' w' hs'
      exact hK a' w' (hs'.wk [0] [] rfl ⟨fun _ h => h, fun _ h => h, fun _ h => h, fun _ h => h, fun _ h => h, fun _ h => h, fun _ h => h, fun _ h => h, fun _ h => h, fun _ h => h, fun _ h => h, fun _ h => h, fun _ h => h, fun _ h => h, fun _ h => h, fun _ h => h, fun _ h => h, trivial⟩ rfl rfl)
    · intro L a w hL hv
      rw [allTrue hL] at hv
      have hs := hv
      refine (show Tk _ _ ⟨[(0, some (.pointer (some ⟨b_r0_, 0, none⟩))), (1, some (vI at1_)), (3, some (vU64 v)), (9, some (vI n)), (10, some (vI x1))], [some (cellsR b_r0_ 60 ((m1.set (wi (at1_ + x1)).toNat ((shr64 v ((wi ((8 : Int) * x1)).toNat)).toUInt8)).map vU8))], []⟩ from ?_) a w (hs.wk [0] [] rfl ⟨fun _ h => h, fun _ h => h, fun _ h => h, fun _ h => h, fun _ h => h, trivial⟩ rfl rfl)
      clear hs hL
      refine Tk_blk ?_
      refine Tk_region ?_
      refine Tops_step rfl (OpT_bin rfl rfl rfl rfl rfl (bin_add_i (a := x1) (b := (1 : Int)))) ?_
      refine Tops_step rfl (OpT_move rfl rfl rfl rfl) ?_
      refine Tops_nil ?_
      refine Tk_wk (fr' := [(0, some (.pointer (some ⟨b_r0_, 0, none⟩))), (1, some (vI at1_)), (3, some (vU64 v)), (9, some (vI n)), (10, some (vI (wi (x1 + (1 : Int)))))]) (own' := [some (cellsR b_r0_ 60 ((m1.set (wi (at1_ + x1)).toNat ((shr64 v ((wi ((8 : Int) * x1)).toNat)).toUInt8)).map vU8))]) (shr' := []) [0] [] rfl ⟨fun _ h => h, fun _ h => h, fun _ h => h, fun _ h => h, fun _ h => h, trivial⟩ rfl rfl ?_
      exact Tk_backw (m1.set (wi (at1_ + x1)).toNat ((shr64 v ((wi ((8 : Int) * x1)).toNat)).toUInt8), wi (x1 + (1 : Int))) h [0] [] rfl rfl ⟨fun _ h => h, fun _ h => h, fun _ h => h, fun _ h => h, fun _ h => h, trivial⟩ rfl rfl
  · replace h := br_f hg1 h
    refine Tk_condF (congrArg (fun b => some (Value.bool b)) hg1) ?_
    refine Tk_exit _ rfl ?_
    obtain rfl := Option.some.inj h
    exact Tk_endV rfl (resA (vs := []) rfl trivial) [0] [] rfl rfl rfl ⟨rfl, rfl, rfl⟩

set_option maxRecDepth 100000 in
set_option maxHeartbeats 4000000 in
theorem w_desc_Bytes {d : Desc} {r : (List UInt8)} (h : desc_Bytes d = some r) :
    Ctr Try.prog 13 #[.agg #[vU64 d.Addr, vU32 d.Len, vU16 d.Flags, vU16 d.Next]] [] []
      (fun rv own shr => ∃ (w1 : Value), rv = w1 ∧ own = [(rowS u8S w1 r)] ∧ shr = []) := by
  unfold desc_Bytes at h
  refine Ctr.mk (args := [.agg #[vU64 d.Addr, vU32 d.Len, vU16 d.Flags, vU16 d.Next]]) Try.func13 rfl rfl (fun R0 w0 B => ?_)
  refine Tk_seq ?_
  refine Tk_region ?_
  refine Tops_ex rfl (OpT_box rfl rfl rfl rfl) fun b1 => ?_
  refine Tops_step rfl (OpT_assign rfl rfl rfl rfl) ?_
  refine Tops_nil ?_
  refine Tk_wk (fr' := [(1, some (.pointer (some ⟨b1, 0, none⟩)))]) (own' := [some (cellsR b1 29 [vU64 d.Addr, vU32 d.Len, vU16 d.Flags, vU16 d.Next])]) (shr' := []) [0] [] rfl ⟨fun _ h => h, trivial⟩ rfl rfl ?_
  refine Tk_seq ?_
  refine Tk_region ?_
  refine Tops_ex rfl (OpT_alloc rfl rfl rfl tyZ60) fun b2 => ?_
  refine Tops_nil ?_
  refine Tk_seq ?_
  refine Tk_region ?_
  refine Tops_step rfl (OpT_fieldC rfl rfl rfl rfl fldF29_0) ?_
  refine Tops_step rfl (OpT_loadC rfl rfl rfl rfl tyF26 (i := 0) rfl rfl) ?_
  obtain ⟨put1, hx1, h⟩ := ob_e h
  refine Tops_exP rfl (OpT_call (w_desc_raw_put hx1) [1] [] rfl rfl rfl rfl rfl callee38 rfl rfl rfl rfl) ?_
  rintro _ ⟨_, _, _, ⟨rfl, rfl, rfl⟩, rfl⟩
  refine Tops_nil ?_
  refine Tk_wk (fr' := [(1, some (.pointer (some ⟨b1, 0, none⟩))), (3, some (.pointer (some ⟨b2, 0, none⟩)))]) (own' := [some (cellsR b1 29 [vU64 d.Addr, vU32 d.Len, vU16 d.Flags, vU16 d.Next]), some (cellsR b2 60 (put1.map vU8))]) (shr' := []) [0, 2] [] rfl ⟨fun _ h => h, fun _ h => h, trivial⟩ rfl rfl ?_
  refine Tk_seq ?_
  refine Tk_region ?_
  refine Tops_step rfl (OpT_fieldC rfl rfl rfl rfl fldF29_1) ?_
  refine Tops_step rfl (OpT_loadC rfl rfl rfl rfl tyF27 (i := 0) rfl rfl) ?_
  refine Tops_step rfl (OpT_cnv rfl rfl rfl rfl (cnv_u32_u64 (n := d.Len) Try.underlying27 Try.underlying26)) ?_
  obtain ⟨put2, hx2, h⟩ := ob_e h
  refine Tops_exP rfl (OpT_call (w_desc_raw_put hx2) [1] [] rfl rfl rfl rfl rfl callee38 rfl rfl rfl rfl) ?_
  rintro _ ⟨_, _, _, ⟨rfl, rfl, rfl⟩, rfl⟩
  refine Tops_nil ?_
  refine Tk_wk (fr' := [(1, some (.pointer (some ⟨b1, 0, none⟩))), (3, some (.pointer (some ⟨b2, 0, none⟩)))]) (own' := [some (cellsR b1 29 [vU64 d.Addr, vU32 d.Len, vU16 d.Flags, vU16 d.Next]), some (cellsR b2 60 (put2.map vU8))]) (shr' := []) [0, 2] [] rfl ⟨fun _ h => h, fun _ h => h, trivial⟩ rfl rfl ?_
  refine Tk_seq ?_
  refine Tk_region ?_
  refine Tops_step rfl (OpT_fieldC rfl rfl rfl rfl fldF29_2) ?_
  refine Tops_step rfl (OpT_loadC rfl rfl rfl rfl tyF22 (i := 0) rfl rfl) ?_
  refine Tops_step rfl (OpT_cnv rfl rfl rfl rfl (cnv_u16_u64 (n := d.Flags) Try.underlying22 Try.underlying26)) ?_
  obtain ⟨put3, hx3, h⟩ := ob_e h
  refine Tops_exP rfl (OpT_call (w_desc_raw_put hx3) [1] [] rfl rfl rfl rfl rfl callee38 rfl rfl rfl rfl) ?_
  rintro _ ⟨_, _, _, ⟨rfl, rfl, rfl⟩, rfl⟩
  refine Tops_nil ?_
  refine Tk_wk (fr' := [(1, some (.pointer (some ⟨b1, 0, none⟩))), (3, some (.pointer (some ⟨b2, 0, none⟩)))]) (own' := [some (cellsR b1 29 [vU64 d.Addr, vU32 d.Len, vU16 d.Flags, vU16 d.Next]), some (cellsR b2 60 (put3.map vU8))]) (shr' := []) [0, 2] [] rfl ⟨fun _ h => h, fun _ h => h, trivial⟩ rfl rfl ?_
  refine Tk_seq ?_
  refine Tk_region ?_
  refine Tops_step rfl (OpT_fieldC rfl rfl rfl rfl fldF29_3) ?_
  refine Tops_step rfl (OpT_loadC rfl rfl rfl rfl tyF22 (i := 0) rfl rfl) ?_
  refine Tops_step rfl (OpT_cnv rfl rfl rfl rfl (cnv_u16_u64 (n := d.Next) Try.underlying22 Try.underlying26)) ?_
  obtain ⟨put4, hx4, h⟩ := ob_e h
  refine Tops_exP rfl (OpT_call (w_desc_raw_put hx4) [1] [] rfl rfl rfl rfl rfl callee38 rfl rfl rfl rfl) ?_
  rintro _ ⟨_, _, _, ⟨rfl, rfl, rfl⟩, rfl⟩
  refine Tops_nil ?_
  refine Tk_wk (fr' := [(3, some (.pointer (some ⟨b2, 0, none⟩)))]) (own' := [some (cellsR b2 60 (put4.map vU8))]) (shr' := []) [2] [] rfl ⟨fun _ h => h, trivial⟩ rfl rfl ?_
  refine Tk_seq ?_
  refine Tk_region ?_
  refine Tops_step rfl (OpT_sliceArr rfl rfl rfl rfl arrF60) ?_
  refine Tops_step rfl (OpT_assign rfl rfl rfl rfl) ?_
  refine Tops_nil ?_
  refine Tk_wk (fr' := [(2, some (.slice (some ⟨b2, 0, none⟩) 16 16))]) (own' := [some (cellsR b2 60 (put4.map vU8))]) (shr' := []) [0] [] rfl ⟨fun _ h => h, trivial⟩ rfl rfl ?_
  obtain ⟨hc1, h⟩ := chk_e h
  refine Tk_rowD u8S rfl (i := 0) (xs := put4) rfl (flat_one _) (len_of hc1) rfl ?_
  obtain rfl := Option.some.inj h
  exact Tk_retV rfl (resA (vs := [.slice (some ⟨b2, 0, none⟩) 16 16]) rfl ⟨rfl, trivial⟩) [0] [] rfl rfl rfl ⟨(.slice (some ⟨b2, 0, none⟩) 16 16), rfl, rfl, rfl⟩

set_option maxRecDepth 100000 in
set_option maxHeartbeats 4000000 in
theorem w_desc_Mark {flags : UInt16} {wrap : Bool} {used : Bool} {r : UInt16} (h : desc_Mark flags wrap used = some r) :
    Ctr Try.prog 9 #[vU16 flags, vB wrap, vB used] [] []
      (fun rv own shr => rv = vU16 r ∧ own = [] ∧ shr = []) := by
  unfold desc_Mark at h
  refine Ctr.mk (args := [vU16 flags, vB wrap, vB used]) Try.func9 rfl rfl (fun R0 w0 B => ?_)
  refine Tk_seq ?_
  refine Tk_region ?_
  refine Tops_step rfl (OpT_assign rfl rfl rfl rfl) ?_
  refine Tops_nil ?_
  refine Tk_wk (fr' := [(0, some (vU16 flags)), (1, some (vB wrap)), (2, some (vB used))]) (own' := []) (shr' := []) [] [] rfl ⟨fun _ h => h, fun _ h => h, fun _ h => h, trivial⟩ rfl rfl ?_
  refine Tk_seq ?_
  refine Tk_region ?_
  refine Tops_step rfl (OpT_move rfl rfl rfl rfl) ?_
  refine Tops_step rfl (OpT_bin rfl rfl rfl rfl rfl (bin_andNot_u16 (a := flags) (b := (32896 : UInt16)))) ?_
  refine Tops_step rfl (OpT_assign rfl rfl rfl rfl) ?_
  refine Tops_nil ?_
  refine Tk_wk (fr' := [(0, some (vU16 (flags &&& ~~~(32896 : UInt16)))), (1, some (vB wrap)), (2, some (vB used))]) (own' := []) (shr' := []) [] [] rfl ⟨fun _ h => h, fun _ h => h, fun _ h => h, trivial⟩ rfl rfl ?_
  refine Tk_seq ?_
  refine Tk_seq ?_
  refine Tk_region ?_
  refine Tops_step rfl (OpT_move rfl rfl rfl rfl) ?_
  refine Tops_nil ?_
  refine Tk_join (α := UInt16) (fun s => ⟨[(0, some (vU16 s)), (1, some (vB wrap)), (2, some (vB used))], [], []⟩) (fun s => desc_Mark_J1 wrap used s = some r) ?_ ?_
  · rintro flags1 h
    replace h : desc_Mark_J1 wrap used flags1 = some r := h
    unfold desc_Mark_J1 at h
    refine Tk_seq ?_
    refine Tk_seq ?_
    refine Tk_region ?_
    refine Tops_step rfl (OpT_move rfl rfl rfl rfl) ?_
    refine Tops_step rfl (OpT_move rfl rfl rfl rfl) ?_
    refine Tops_step rfl (OpT_bin rfl rfl rfl rfl rfl (bin_eql_b (a := wrap) (b := used) Try.underlying4)) ?_
    refine Tops_nil ?_
    refine Tk_wk (fr' := [(0, some (vU16 flags1)), (14, some (vB (wrap == used)))]) (own' := []) (shr' := []) [] [] rfl ⟨fun _ h => h, fun _ h => h, trivial⟩ rfl rfl ?_
    rcases Bool.eq_false_or_eq_true (wrap == used) with hg1 | hg1
    · replace h := br_t hg1 h
      refine Tk_condT (congrArg (fun b => some (Value.bool b)) hg1) ?_
      refine Tk_region ?_
      refine Tops_step rfl (OpT_move rfl rfl rfl rfl) ?_
      refine Tops_step rfl (OpT_bin rfl rfl rfl rfl rfl (bin_or_u16 (a := flags1) (b := (32768 : UInt16)))) ?_
      refine Tops_step rfl (OpT_assign rfl rfl rfl rfl) ?_
      refine Tops_nil ?_
      refine Tk_wk (fr' := [(0, some (vU16 (flags1 ||| (32768 : UInt16))))]) (own' := []) (shr' := []) [] [] rfl ⟨fun _ h => h, trivial⟩ rfl rfl ?_
      refine Tk_seq ?_
      refine Tk_region ?_
      refine Tops_step rfl (OpT_move rfl rfl rfl rfl) ?_
      refine Tops_step rfl (OpT_assign rfl rfl rfl rfl) ?_
      refine Tops_nil ?_
      refine Tk_wk (fr' := [(6, some (vU16 (flags1 ||| (32768 : UInt16))))]) (own' := []) (shr' := []) [] [] rfl ⟨fun _ h => h, trivial⟩ rfl rfl ?_
      obtain rfl := Option.some.inj h
      exact Tk_retV rfl (resA (vs := [vU16 (flags1 ||| (32768 : UInt16))]) rfl ⟨rfl, trivial⟩) [] [] rfl rfl rfl ⟨rfl, rfl, rfl⟩
    · replace h := br_f hg1 h
      refine Tk_condF (congrArg (fun b => some (Value.bool b)) hg1) ?_
      refine Tk_skip ?_
      refine Tk_seq ?_
      refine Tk_region ?_
      refine Tops_step rfl (OpT_move rfl rfl rfl rfl) ?_
      refine Tops_step rfl (OpT_assign rfl rfl rfl rfl) ?_
      refine Tops_nil ?_
      refine Tk_wk (fr' := [(6, some (vU16 flags1))]) (own' := []) (shr' := []) [] [] rfl ⟨fun _ h => h, trivial⟩ rfl rfl ?_
      obtain rfl := Option.some.inj h
      exact Tk_retV rfl (resA (vs := [vU16 flags1]) rfl ⟨rfl, trivial⟩) [] [] rfl rfl rfl ⟨rfl, rfl, rfl⟩
  · intro HJ1
    rcases Bool.eq_false_or_eq_true (wrap) with hg2 | hg2
    · replace h := br_t hg2 h
      refine Tk_condT (congrArg (fun b => some (Value.bool b)) hg2) ?_
      refine Tk_region ?_
      refine Tops_step rfl (OpT_move rfl rfl rfl rfl) ?_
      refine Tops_step rfl (OpT_bin rfl rfl rfl rfl rfl (bin_or_u16 (a := flags &&& ~~~(32896 : UInt16)) (b := (128 : UInt16)))) ?_
      refine Tops_step rfl (OpT_assign rfl rfl rfl rfl) ?_
      refine Tops_nil ?_
      refine Tk_wk (fr' := [(0, some (vU16 ((flags &&& ~~~(32896 : UInt16)) ||| (128 : UInt16)))), (1, some (vB wrap)), (2, some (vB used))]) (own' := []) (shr' := []) [] [] rfl ⟨fun _ h => h, fun _ h => h, fun _ h => h, trivial⟩ rfl rfl ?_
      exact Tk_jmp (HJ1 ((flags &&& ~~~(32896 : UInt16)) ||| (128 : UInt16)) h) [] [] rfl ⟨fun _ h => h, fun _ h => h, fun _ h => h, trivial⟩ rfl rfl
    · replace h := br_f hg2 h
      refine Tk_condF (congrArg (fun b => some (Value.bool b)) hg2) ?_
      refine Tk_skip ?_
      exact Tk_jmp (HJ1 (flags &&& ~~~(32896 : UInt16)) h) [] [] rfl ⟨fun _ h => h, fun _ h => h, fun _ h => h, trivial⟩ rfl rfl

set_option maxRecDepth 100000 in
set_option maxHeartbeats 4000000 in
theorem w_law03_lives  {r : Bool} (h : law03_lives = some r) :
    Ctr Try.prog 8 #[] [] []
      (fun rv own shr => rv = vB r ∧ own = [] ∧ shr = []) := by
  unfold law03_lives at h
  refine Ctr.mk (args := []) Try.func8 rfl rfl (fun R0 w0 B => ?_)
  refine Tk_seq ?_
  refine Tk_region ?_
  refine Tops_step rfl (OpT_assign rfl rfl rfl rfl) ?_
  refine Tops_nil ?_
  refine Tk_wk (fr' := []) (own' := []) (shr' := []) [] [] rfl trivial rfl rfl ?_
  refine Tk_seq ?_
  refine Tk_region ?_
  refine Tops_step rfl (OpT_build (v := .agg #[vU64 (4096 : UInt64), vU32 (32 : UInt32), vU16 (1 : UInt16), vU16 (5 : UInt16)]) rfl rfl rfl rfl (bldV (by kernel_rfl))) ?_
  obtain ⟨bytes1, hx1, h⟩ := ob_e h
  refine Tops_exP rfl (OpT_call (w_desc_Bytes hx1) [] [] rfl rfl rfl rfl rfl callee13 rfl rfl rfl rfl) ?_
  rintro _ ⟨v1, _, _, ⟨_, rfl, rfl, rfl⟩, rfl⟩
  refine Tops_step rfl (OpT_assign rfl rfl rfl rfl) ?_
  refine Tops_nil ?_
  refine Tk_wk (fr' := [(1, some (v1))]) (own' := [some (rowS u8S v1 bytes1)]) (shr' := []) [0] [] rfl ⟨fun _ h => h, trivial⟩ rfl rfl ?_
  refine Tk_seq ?_
  refine Tk_region ?_
  refine Tops_step rfl (OpT_move rfl rfl rfl rfl) ?_
  refine Tops_retire (i := 0) rfl ?_
  refine Tops_step rfl (OpT_strS rfl rfl rfl rfl Try.underlying34 Try.underlying5 Try.underlying9 (i := 0) rfl) ?_
  refine Tops_step rfl (OpT_bin rfl rfl rfl rfl rfl (bin_eql_s (a := bytes1) (b := ([0, 16, 0, 0, 0, 0, 0, 0, 32, 0, 0, 0, 1, 0, 5, 0] : List UInt8)))) ?_
  refine Tops_step rfl (OpT_move rfl rfl rfl rfl) ?_
  rcases Bool.eq_false_or_eq_true (bytes1 == ([0, 16, 0, 0, 0, 0, 0, 0, 32, 0, 0, 0, 1, 0, 5, 0] : List UInt8)) with hg1 | hg1
  · replace h := br_t hg1 h
    obtain ⟨mark1, hx2, h⟩ := ob_e h
    refine Tops_yes rfl rfl (congrArg (fun b => some (Value.bool b)) hg1) (OpT_call (w_desc_Mark hx2) [] [] rfl rfl rfl rfl rfl callee9 rfl rfl rfl rfl) ?_
    rintro _ ⟨_, _, _, ⟨rfl, rfl, rfl⟩, rfl⟩
    refine Tops_yes rfl rfl (congrArg (fun b => some (Value.bool b)) hg1) (OpT_bin rfl rfl rfl rfl rfl (bin_eql_u16 (a := mark1) (b := (130 : UInt16)))) ?_
    rintro _ rfl
    refine Tops_step rfl (OpT_pickT rfl rfl rfl (congrArg (fun b => some (Value.bool b)) hg1) rfl) ?_
    refine Tops_step rfl (OpT_move rfl rfl rfl rfl) ?_
    rcases Bool.eq_false_or_eq_true (mark1 == (130 : UInt16)) with hg2 | hg2
    · replace h := br_t hg2 h
      obtain ⟨mark2, hx3, h⟩ := ob_e h
      refine Tops_yes rfl rfl (congrArg (fun b => some (Value.bool b)) hg2) (OpT_call (w_desc_Mark hx3) [] [] rfl rfl rfl rfl rfl callee9 rfl rfl rfl rfl) ?_
      rintro _ ⟨_, _, _, ⟨rfl, rfl, rfl⟩, rfl⟩
      refine Tops_yes rfl rfl (congrArg (fun b => some (Value.bool b)) hg2) (OpT_bin rfl rfl rfl rfl rfl (bin_eql_u16 (a := mark2) (b := (32898 : UInt16)))) ?_
      rintro _ rfl
      refine Tops_step rfl (OpT_pickT rfl rfl rfl (congrArg (fun b => some (Value.bool b)) hg2) rfl) ?_
      refine Tops_step rfl (OpT_assign rfl rfl rfl rfl) ?_
      refine Tops_nil ?_
      refine Tk_wk (fr' := [(0, some (vB (mark2 == (32898 : UInt16))))]) (own' := []) (shr' := []) [] [] rfl ⟨fun _ h => h, trivial⟩ rfl rfl ?_
      obtain rfl := Option.some.inj h
      exact Tk_retV rfl (resA (vs := [vB (mark2 == (32898 : UInt16))]) rfl ⟨rfl, trivial⟩) [] [] rfl rfl rfl ⟨rfl, rfl, rfl⟩
    · replace h := br_f hg2 h
      refine Tops_no rfl rfl (congrArg (fun b => some (Value.bool b)) hg2) rfl rfl ?_
      refine Tops_no rfl rfl (congrArg (fun b => some (Value.bool b)) hg2) rfl rfl ?_
      refine Tops_step rfl (OpT_pickF rfl rfl rfl (congrArg (fun b => some (Value.bool b)) hg2) rfl) ?_
      refine Tops_step rfl (OpT_assign rfl rfl rfl rfl) ?_
      refine Tops_nil ?_
      refine Tk_wk (fr' := [(0, some (vB false))]) (own' := []) (shr' := []) [] [] rfl ⟨fun _ h => h, trivial⟩ rfl rfl ?_
      obtain rfl := Option.some.inj h
      exact Tk_retV rfl (resA (vs := [vB false]) rfl ⟨rfl, trivial⟩) [] [] rfl rfl rfl ⟨rfl, rfl, rfl⟩
  · replace h := br_f hg1 h
    refine Tops_no rfl rfl (congrArg (fun b => some (Value.bool b)) hg1) rfl rfl ?_
    refine Tops_no rfl rfl (congrArg (fun b => some (Value.bool b)) hg1) rfl rfl ?_
    refine Tops_step rfl (OpT_pickF rfl rfl rfl (congrArg (fun b => some (Value.bool b)) hg1) rfl) ?_
    refine Tops_step rfl (OpT_move rfl rfl rfl rfl) ?_
    refine Tops_no rfl rfl rfl rfl rfl ?_
    refine Tops_no rfl rfl rfl rfl rfl ?_
    refine Tops_step rfl (OpT_pickF rfl rfl rfl rfl rfl) ?_
    refine Tops_step rfl (OpT_assign rfl rfl rfl rfl) ?_
    refine Tops_nil ?_
    refine Tk_wk (fr' := [(0, some (vB false))]) (own' := []) (shr' := []) [] [] rfl ⟨fun _ h => h, trivial⟩ rfl rfl ?_
    obtain rfl := Option.some.inj h
    exact Tk_retV rfl (resA (vs := [vB false]) rfl ⟨rfl, trivial⟩) [] [] rfl rfl rfl ⟨rfl, rfl, rfl⟩

set_option maxRecDepth 100000 in
set_option maxHeartbeats 4000000 in
theorem w_desc_Avail {flags : UInt16} {wrap : Bool} {r : Bool} (h : desc_Avail flags wrap = some r) :
    Ctr Try.prog 10 #[vU16 flags, vB wrap] [] []
      (fun rv own shr => rv = vB r ∧ own = [] ∧ shr = []) := by
  unfold desc_Avail at h
  refine Ctr.mk (args := [vU16 flags, vB wrap]) Try.func10 rfl rfl (fun R0 w0 B => ?_)
  refine Tk_seq ?_
  refine Tk_region ?_
  refine Tops_step rfl (OpT_assign rfl rfl rfl rfl) ?_
  refine Tops_nil ?_
  refine Tk_wk (fr' := [(0, some (vU16 flags)), (1, some (vB wrap))]) (own' := []) (shr' := []) [] [] rfl ⟨fun _ h => h, fun _ h => h, trivial⟩ rfl rfl ?_
  refine Tk_seq ?_
  refine Tk_region ?_
  refine Tops_step rfl (OpT_move rfl rfl rfl rfl) ?_
  refine Tops_step rfl (OpT_bin rfl rfl rfl rfl rfl (bin_and_u16 (a := flags) (b := (128 : UInt16)))) ?_
  refine Tops_step rfl (OpT_bin rfl rfl rfl rfl rfl (bin_neq_u16 (a := flags &&& (128 : UInt16)) (b := (0 : UInt16)))) ?_
  refine Tops_step rfl (OpT_move rfl rfl rfl rfl) ?_
  refine Tops_step rfl (OpT_bin rfl rfl rfl rfl rfl (bin_eql_b (a := (flags &&& (128 : UInt16)) != (0 : UInt16)) (b := wrap) Try.underlying4)) ?_
  refine Tops_step rfl (OpT_move rfl rfl rfl rfl) ?_
  rcases Bool.eq_false_or_eq_true (((flags &&& (128 : UInt16)) != (0 : UInt16)) == wrap) with hg1 | hg1
  · replace h := br_t hg1 h
    refine Tops_yes rfl rfl (congrArg (fun b => some (Value.bool b)) hg1) (OpT_move rfl rfl rfl rfl) ?_
    rintro _ rfl
    refine Tops_yes rfl rfl (congrArg (fun b => some (Value.bool b)) hg1) (OpT_bin rfl rfl rfl rfl rfl (bin_and_u16 (a := flags) (b := (32768 : UInt16)))) ?_
    rintro _ rfl
    refine Tops_yes rfl rfl (congrArg (fun b => some (Value.bool b)) hg1) (OpT_bin rfl rfl rfl rfl rfl (bin_neq_u16 (a := flags &&& (32768 : UInt16)) (b := (0 : UInt16)))) ?_
    rintro _ rfl
    refine Tops_yes rfl rfl (congrArg (fun b => some (Value.bool b)) hg1) (OpT_move rfl rfl rfl rfl) ?_
    rintro _ rfl
    refine Tops_yes rfl rfl (congrArg (fun b => some (Value.bool b)) hg1) (OpT_bin rfl rfl rfl rfl rfl (bin_neq_b (a := (flags &&& (32768 : UInt16)) != (0 : UInt16)) (b := wrap) Try.underlying4)) ?_
    rintro _ rfl
    refine Tops_step rfl (OpT_pickT rfl rfl rfl (congrArg (fun b => some (Value.bool b)) hg1) rfl) ?_
    refine Tops_step rfl (OpT_assign rfl rfl rfl rfl) ?_
    refine Tops_nil ?_
    refine Tk_wk (fr' := [(4, some (vB (((flags &&& (32768 : UInt16)) != (0 : UInt16)) != wrap)))]) (own' := []) (shr' := []) [] [] rfl ⟨fun _ h => h, trivial⟩ rfl rfl ?_
    obtain rfl := Option.some.inj h
    exact Tk_retV rfl (resA (vs := [vB (((flags &&& (32768 : UInt16)) != (0 : UInt16)) != wrap)]) rfl ⟨rfl, trivial⟩) [] [] rfl rfl rfl ⟨rfl, rfl, rfl⟩
  · replace h := br_f hg1 h
    refine Tops_no rfl rfl (congrArg (fun b => some (Value.bool b)) hg1) rfl rfl ?_
    refine Tops_no rfl rfl (congrArg (fun b => some (Value.bool b)) hg1) rfl rfl ?_
    refine Tops_no rfl rfl (congrArg (fun b => some (Value.bool b)) hg1) rfl rfl ?_
    refine Tops_no rfl rfl (congrArg (fun b => some (Value.bool b)) hg1) rfl rfl ?_
    refine Tops_no rfl rfl (congrArg (fun b => some (Value.bool b)) hg1) rfl rfl ?_
    refine Tops_step rfl (OpT_pickF rfl rfl rfl (congrArg (fun b => some (Value.bool b)) hg1) rfl) ?_
    refine Tops_step rfl (OpT_assign rfl rfl rfl rfl) ?_
    refine Tops_nil ?_
    refine Tk_wk (fr' := [(4, some (vB false))]) (own' := []) (shr' := []) [] [] rfl ⟨fun _ h => h, trivial⟩ rfl rfl ?_
    obtain rfl := Option.some.inj h
    exact Tk_retV rfl (resA (vs := [vB false]) rfl ⟨rfl, trivial⟩) [] [] rfl rfl rfl ⟨rfl, rfl, rfl⟩

set_option maxRecDepth 100000 in
set_option maxHeartbeats 4000000 in
theorem w_desc_Used {flags : UInt16} {wrap : Bool} {r : Bool} (h : desc_Used flags wrap = some r) :
    Ctr Try.prog 11 #[vU16 flags, vB wrap] [] []
      (fun rv own shr => rv = vB r ∧ own = [] ∧ shr = []) := by
  unfold desc_Used at h
  refine Ctr.mk (args := [vU16 flags, vB wrap]) Try.func11 rfl rfl (fun R0 w0 B => ?_)
  refine Tk_seq ?_
  refine Tk_region ?_
  refine Tops_step rfl (OpT_assign rfl rfl rfl rfl) ?_
  refine Tops_nil ?_
  refine Tk_wk (fr' := [(0, some (vU16 flags)), (1, some (vB wrap))]) (own' := []) (shr' := []) [] [] rfl ⟨fun _ h => h, fun _ h => h, trivial⟩ rfl rfl ?_
  refine Tk_seq ?_
  refine Tk_region ?_
  refine Tops_step rfl (OpT_move rfl rfl rfl rfl) ?_
  refine Tops_step rfl (OpT_bin rfl rfl rfl rfl rfl (bin_and_u16 (a := flags) (b := (128 : UInt16)))) ?_
  refine Tops_step rfl (OpT_bin rfl rfl rfl rfl rfl (bin_neq_u16 (a := flags &&& (128 : UInt16)) (b := (0 : UInt16)))) ?_
  refine Tops_step rfl (OpT_move rfl rfl rfl rfl) ?_
  refine Tops_step rfl (OpT_bin rfl rfl rfl rfl rfl (bin_eql_b (a := (flags &&& (128 : UInt16)) != (0 : UInt16)) (b := wrap) Try.underlying4)) ?_
  refine Tops_step rfl (OpT_move rfl rfl rfl rfl) ?_
  rcases Bool.eq_false_or_eq_true (((flags &&& (128 : UInt16)) != (0 : UInt16)) == wrap) with hg1 | hg1
  · replace h := br_t hg1 h
    refine Tops_yes rfl rfl (congrArg (fun b => some (Value.bool b)) hg1) (OpT_move rfl rfl rfl rfl) ?_
    rintro _ rfl
    refine Tops_yes rfl rfl (congrArg (fun b => some (Value.bool b)) hg1) (OpT_bin rfl rfl rfl rfl rfl (bin_and_u16 (a := flags) (b := (32768 : UInt16)))) ?_
    rintro _ rfl
    refine Tops_yes rfl rfl (congrArg (fun b => some (Value.bool b)) hg1) (OpT_bin rfl rfl rfl rfl rfl (bin_neq_u16 (a := flags &&& (32768 : UInt16)) (b := (0 : UInt16)))) ?_
    rintro _ rfl
    refine Tops_yes rfl rfl (congrArg (fun b => some (Value.bool b)) hg1) (OpT_move rfl rfl rfl rfl) ?_
    rintro _ rfl
    refine Tops_yes rfl rfl (congrArg (fun b => some (Value.bool b)) hg1) (OpT_bin rfl rfl rfl rfl rfl (bin_eql_b (a := (flags &&& (32768 : UInt16)) != (0 : UInt16)) (b := wrap) Try.underlying4)) ?_
    rintro _ rfl
    refine Tops_step rfl (OpT_pickT rfl rfl rfl (congrArg (fun b => some (Value.bool b)) hg1) rfl) ?_
    refine Tops_step rfl (OpT_assign rfl rfl rfl rfl) ?_
    refine Tops_nil ?_
    refine Tk_wk (fr' := [(4, some (vB (((flags &&& (32768 : UInt16)) != (0 : UInt16)) == wrap)))]) (own' := []) (shr' := []) [] [] rfl ⟨fun _ h => h, trivial⟩ rfl rfl ?_
    obtain rfl := Option.some.inj h
    exact Tk_retV rfl (resA (vs := [vB (((flags &&& (32768 : UInt16)) != (0 : UInt16)) == wrap)]) rfl ⟨rfl, trivial⟩) [] [] rfl rfl rfl ⟨rfl, rfl, rfl⟩
  · replace h := br_f hg1 h
    refine Tops_no rfl rfl (congrArg (fun b => some (Value.bool b)) hg1) rfl rfl ?_
    refine Tops_no rfl rfl (congrArg (fun b => some (Value.bool b)) hg1) rfl rfl ?_
    refine Tops_no rfl rfl (congrArg (fun b => some (Value.bool b)) hg1) rfl rfl ?_
    refine Tops_no rfl rfl (congrArg (fun b => some (Value.bool b)) hg1) rfl rfl ?_
    refine Tops_no rfl rfl (congrArg (fun b => some (Value.bool b)) hg1) rfl rfl ?_
    refine Tops_step rfl (OpT_pickF rfl rfl rfl (congrArg (fun b => some (Value.bool b)) hg1) rfl) ?_
    refine Tops_step rfl (OpT_assign rfl rfl rfl rfl) ?_
    refine Tops_nil ?_
    refine Tk_wk (fr' := [(4, some (vB false))]) (own' := []) (shr' := []) [] [] rfl ⟨fun _ h => h, trivial⟩ rfl rfl ?_
    obtain rfl := Option.some.inj h
    exact Tk_retV rfl (resA (vs := [vB false]) rfl ⟨rfl, trivial⟩) [] [] rfl rfl rfl ⟨rfl, rfl, rfl⟩

set_option maxRecDepth 100000 in
set_option maxHeartbeats 4000000 in
theorem w_law03_DescRounds {flags : UInt16} {wrap : Bool}  (h : law03_DescRounds flags wrap = some true) :
    Ctr Try.prog 3 #[vU16 flags, vB wrap] [] []
      (fun rv own shr => rv = .bool true ∧ own = [] ∧ shr = []) := by
  unfold law03_DescRounds at h
  refine Ctr.mk (args := [vU16 flags, vB wrap]) Try.func3 rfl rfl (fun R0 w0 B => ?_)
  refine Tk_seq ?_
  refine Tk_region ?_
  refine Tops_step rfl (OpT_assign rfl rfl rfl rfl) ?_
  refine Tops_nil ?_
  refine Tk_wk (fr' := [(0, some (vU16 flags)), (1, some (vB wrap))]) (own' := []) (shr' := []) [] [] rfl ⟨fun _ h => h, fun _ h => h, trivial⟩ rfl rfl ?_
  refine Tk_seq ?_
  refine Tk_seq ?_
  refine Tk_region ?_
  obtain ⟨lives1, hx1, h⟩ := ob_e h
  refine Tops_exP rfl (OpT_call (w_law03_lives hx1) [] [] rfl rfl rfl rfl rfl callee8 rfl rfl rfl rfl) ?_
  rintro _ ⟨_, _, _, ⟨rfl, rfl, rfl⟩, rfl⟩
  refine Tops_step rfl (OpT_not rfl rfl rfl rfl) ?_
  refine Tops_nil ?_
  refine Tk_wk (fr' := [(0, some (vU16 flags)), (1, some (vB wrap)), (9, some (vB (!lives1)))]) (own' := []) (shr' := []) [] [] rfl ⟨fun _ h => h, fun _ h => h, fun _ h => h, trivial⟩ rfl rfl ?_
  obtain ⟨hg1, h⟩ := chk_e h
  replace hg1 := not_t hg1
  refine Tk_condF (congrArg (fun b => some (Value.bool b)) hg1) ?_
  refine Tk_skip ?_
  refine Tk_seq ?_
  refine Tk_region ?_
  refine Tops_step rfl (OpT_move rfl rfl rfl rfl) ?_
  refine Tops_step rfl (OpT_move rfl rfl rfl rfl) ?_
  obtain ⟨mark1, hx2, h⟩ := ob_e h
  refine Tops_exP rfl (OpT_call (w_desc_Mark hx2) [] [] rfl rfl rfl rfl rfl callee9 rfl rfl rfl rfl) ?_
  rintro _ ⟨_, _, _, ⟨rfl, rfl, rfl⟩, rfl⟩
  refine Tops_step rfl (OpT_move rfl rfl rfl rfl) ?_
  refine Tops_step rfl (OpT_move rfl rfl rfl rfl) ?_
  obtain ⟨mark2, hx3, h⟩ := ob_e h
  refine Tops_exP rfl (OpT_call (w_desc_Mark hx3) [] [] rfl rfl rfl rfl rfl callee9 rfl rfl rfl rfl) ?_
  rintro _ ⟨_, _, _, ⟨rfl, rfl, rfl⟩, rfl⟩
  refine Tops_step rfl (OpT_assign rfl rfl rfl rfl) ?_
  refine Tops_step rfl (OpT_assign rfl rfl rfl rfl) ?_
  refine Tops_nil ?_
  refine Tk_wk (fr' := [(0, some (vU16 flags)), (1, some (vB wrap)), (5, some (vU16 mark1)), (6, some (vU16 mark2))]) (own' := []) (shr' := []) [] [] rfl ⟨fun _ h => h, fun _ h => h, fun _ h => h, fun _ h => h, trivial⟩ rfl rfl ?_
  refine Tk_seq ?_
  refine Tk_region ?_
  refine Tops_step rfl (OpT_assign rfl rfl rfl rfl) ?_
  refine Tops_nil ?_
  refine Tk_seq ?_
  refine Tk_seq ?_
  refine Tk_region ?_
  refine Tops_step rfl (OpT_move rfl rfl rfl rfl) ?_
  refine Tops_step rfl (OpT_move rfl rfl rfl rfl) ?_
  obtain ⟨avail1, hx4, h⟩ := ob_e h
  refine Tops_exP rfl (OpT_call (w_desc_Avail hx4) [] [] rfl rfl rfl rfl rfl callee10 rfl rfl rfl rfl) ?_
  rintro _ ⟨_, _, _, ⟨rfl, rfl, rfl⟩, rfl⟩
  refine Tops_step rfl (OpT_move rfl rfl rfl rfl) ?_
  rcases Bool.eq_false_or_eq_true (avail1) with hg2 | hg2
  · replace h := br_t hg2 h
    refine Tops_yes rfl rfl (congrArg (fun b => some (Value.bool b)) hg2) (OpT_move rfl rfl rfl rfl) ?_
    rintro _ rfl
    refine Tops_yes rfl rfl (congrArg (fun b => some (Value.bool b)) hg2) (OpT_move rfl rfl rfl rfl) ?_
    rintro _ rfl
    obtain ⟨used1, hx5, h⟩ := ob_e h
    refine Tops_yes rfl rfl (congrArg (fun b => some (Value.bool b)) hg2) (OpT_call (w_desc_Used hx5) [] [] rfl rfl rfl rfl rfl callee11 rfl rfl rfl rfl) ?_
    rintro _ ⟨_, _, _, ⟨rfl, rfl, rfl⟩, rfl⟩
    refine Tops_yes rfl rfl (congrArg (fun b => some (Value.bool b)) hg2) (OpT_move rfl rfl rfl rfl) ?_
    rintro _ rfl
    obtain ⟨hg3, h⟩ := chk_e h
    replace hg3 := not_t hg3
    refine Tops_yes rfl rfl (congrArg (fun b => some (Value.bool b)) hg3) (OpT_move rfl rfl rfl rfl) ?_
    rintro _ rfl
    refine Tops_yes rfl rfl (congrArg (fun b => some (Value.bool b)) hg3) (OpT_move rfl rfl rfl rfl) ?_
    rintro _ rfl
    refine Tops_yes rfl rfl (congrArg (fun b => some (Value.bool b)) hg3) (OpT_not rfl rfl rfl rfl) ?_
    rintro _ rfl
    obtain ⟨used2, hx6, h⟩ := ob_e h
    refine Tops_yes rfl rfl (congrArg (fun b => some (Value.bool b)) hg3) (OpT_call (w_desc_Used hx6) [] [] rfl rfl rfl rfl rfl callee11 rfl rfl rfl rfl) ?_
    rintro _ ⟨_, _, _, ⟨rfl, rfl, rfl⟩, rfl⟩
    refine Tops_yes rfl rfl (congrArg (fun b => some (Value.bool b)) hg2) (OpT_pickF rfl rfl rfl (congrArg (fun b => some (Value.bool b)) hg3) rfl) ?_
    rintro _ rfl
    refine Tops_yes rfl rfl (congrArg (fun b => some (Value.bool b)) hg2) (OpT_move rfl rfl rfl rfl) ?_
    rintro _ rfl
    obtain ⟨hg4, h⟩ := chk_e h
    replace hg4 := not_t hg4
    refine Tops_yes rfl rfl (congrArg (fun b => some (Value.bool b)) hg4) (OpT_move rfl rfl rfl rfl) ?_
    rintro _ rfl
    refine Tops_yes rfl rfl (congrArg (fun b => some (Value.bool b)) hg4) (OpT_move rfl rfl rfl rfl) ?_
    rintro _ rfl
    refine Tops_yes rfl rfl (congrArg (fun b => some (Value.bool b)) hg4) (OpT_not rfl rfl rfl rfl) ?_
    rintro _ rfl
    obtain ⟨avail2, hx7, h⟩ := ob_e h
    refine Tops_yes rfl rfl (congrArg (fun b => some (Value.bool b)) hg4) (OpT_call (w_desc_Avail hx7) [] [] rfl rfl rfl rfl rfl callee10 rfl rfl rfl rfl) ?_
    rintro _ ⟨_, _, _, ⟨rfl, rfl, rfl⟩, rfl⟩
    refine Tops_yes rfl rfl (congrArg (fun b => some (Value.bool b)) hg2) (OpT_pickF rfl rfl rfl (congrArg (fun b => some (Value.bool b)) hg4) rfl) ?_
    rintro _ rfl
    refine Tops_step rfl (OpT_pickT rfl rfl rfl (congrArg (fun b => some (Value.bool b)) hg2) rfl) ?_
    refine Tops_step rfl (OpT_move rfl rfl rfl rfl) ?_
    obtain ⟨hg5, h⟩ := chk_e h
    replace hg5 := not_t hg5
    refine Tops_yes rfl rfl (congrArg (fun b => some (Value.bool b)) hg5) (OpT_move rfl rfl rfl rfl) ?_
    rintro _ rfl
    refine Tops_yes rfl rfl (congrArg (fun b => some (Value.bool b)) hg5) (OpT_move rfl rfl rfl rfl) ?_
    rintro _ rfl
    obtain ⟨used3, hx8, h⟩ := ob_e h
    refine Tops_yes rfl rfl (congrArg (fun b => some (Value.bool b)) hg5) (OpT_call (w_desc_Used hx8) [] [] rfl rfl rfl rfl rfl callee11 rfl rfl rfl rfl) ?_
    rintro _ ⟨_, _, _, ⟨rfl, rfl, rfl⟩, rfl⟩
    refine Tops_yes rfl rfl (congrArg (fun b => some (Value.bool b)) hg5) (OpT_move rfl rfl rfl rfl) ?_
    rintro _ rfl
    rcases Bool.eq_false_or_eq_true (used3) with hg6 | hg6
    · replace h := br_t hg6 h
      refine Tops_yes rfl rfl (congrArg (fun b => some (Value.bool b)) hg6) (OpT_move rfl rfl rfl rfl) ?_
      rintro _ rfl
      refine Tops_yes rfl rfl (congrArg (fun b => some (Value.bool b)) hg6) (OpT_move rfl rfl rfl rfl) ?_
      rintro _ rfl
      refine Tops_yes rfl rfl (congrArg (fun b => some (Value.bool b)) hg6) (OpT_not rfl rfl rfl rfl) ?_
      rintro _ rfl
      obtain ⟨used4, hx9, h⟩ := ob_e h
      refine Tops_yes rfl rfl (congrArg (fun b => some (Value.bool b)) hg6) (OpT_call (w_desc_Used hx9) [] [] rfl rfl rfl rfl rfl callee11 rfl rfl rfl rfl) ?_
      rintro _ ⟨_, _, _, ⟨rfl, rfl, rfl⟩, rfl⟩
      refine Tops_yes rfl rfl (congrArg (fun b => some (Value.bool b)) hg5) (OpT_pickT rfl rfl rfl (congrArg (fun b => some (Value.bool b)) hg6) rfl) ?_
      rintro _ rfl
      refine Tops_step rfl (OpT_pickF rfl rfl rfl (congrArg (fun b => some (Value.bool b)) hg5) rfl) ?_
      refine Tops_nil ?_
      refine Tk_wk (fr' := [(0, some (vU16 flags)), (1, some (vB wrap)), (5, some (vU16 mark1)), (6, some (vU16 mark2)), (7, some (vU16 (32639 : UInt16))), (46, some (vB used4))]) (own' := []) (shr' := []) [] [] rfl ⟨fun _ h => h, fun _ h => h, fun _ h => h, fun _ h => h, fun _ h => h, fun _ h => h, trivial⟩ rfl rfl ?_
      obtain ⟨hg7, h⟩ := chk_e h
      replace hg7 := not_t hg7
      refine Tk_condF (congrArg (fun b => some (Value.bool b)) hg7) ?_
      refine Tk_skip ?_
      refine Tk_seq ?_
      refine Tk_region ?_
      refine Tops_step rfl (OpT_move rfl rfl rfl rfl) ?_
      refine Tops_step rfl (OpT_move rfl rfl rfl rfl) ?_
      obtain ⟨avail3, hx10, h⟩ := ob_e h
      refine Tops_exP rfl (OpT_call (w_desc_Avail hx10) [] [] rfl rfl rfl rfl rfl callee10 rfl rfl rfl rfl) ?_
      rintro _ ⟨_, _, _, ⟨rfl, rfl, rfl⟩, rfl⟩
      refine Tops_step rfl (OpT_move rfl rfl rfl rfl) ?_
      obtain ⟨hg8, h⟩ := chk_e h
      refine Tops_yes rfl rfl (congrArg (fun b => some (Value.bool b)) hg8) (OpT_move rfl rfl rfl rfl) ?_
      rintro _ rfl
      refine Tops_yes rfl rfl (congrArg (fun b => some (Value.bool b)) hg8) (OpT_move rfl rfl rfl rfl) ?_
      rintro _ rfl
      obtain ⟨used5, hx11, h⟩ := ob_e h
      refine Tops_yes rfl rfl (congrArg (fun b => some (Value.bool b)) hg8) (OpT_call (w_desc_Used hx11) [] [] rfl rfl rfl rfl rfl callee11 rfl rfl rfl rfl) ?_
      rintro _ ⟨_, _, _, ⟨rfl, rfl, rfl⟩, rfl⟩
      refine Tops_yes rfl rfl (congrArg (fun b => some (Value.bool b)) hg8) (OpT_not rfl rfl rfl rfl) ?_
      rintro _ rfl
      refine Tops_step rfl (OpT_pickT rfl rfl rfl (congrArg (fun b => some (Value.bool b)) hg8) rfl) ?_
      refine Tops_step rfl (OpT_move rfl rfl rfl rfl) ?_
      obtain ⟨hg9, h⟩ := chk_e h
      refine Tops_yes rfl rfl (congrArg (fun b => some (Value.bool b)) hg9) (OpT_move rfl rfl rfl rfl) ?_
      rintro _ rfl
      refine Tops_yes rfl rfl (congrArg (fun b => some (Value.bool b)) hg9) (OpT_move rfl rfl rfl rfl) ?_
      rintro _ rfl
      refine Tops_yes rfl rfl (congrArg (fun b => some (Value.bool b)) hg9) (OpT_not rfl rfl rfl rfl) ?_
      rintro _ rfl
      obtain ⟨avail4, hx12, h⟩ := ob_e h
      refine Tops_yes rfl rfl (congrArg (fun b => some (Value.bool b)) hg9) (OpT_call (w_desc_Avail hx12) [] [] rfl rfl rfl rfl rfl callee10 rfl rfl rfl rfl) ?_
      rintro _ ⟨_, _, _, ⟨rfl, rfl, rfl⟩, rfl⟩
      refine Tops_yes rfl rfl (congrArg (fun b => some (Value.bool b)) hg9) (OpT_not rfl rfl rfl rfl) ?_
      rintro _ rfl
      refine Tops_step rfl (OpT_pickT rfl rfl rfl (congrArg (fun b => some (Value.bool b)) hg9) rfl) ?_
      refine Tops_step rfl (OpT_move rfl rfl rfl rfl) ?_
      obtain ⟨hg10, h⟩ := chk_e h
      refine Tops_yes rfl rfl (congrArg (fun b => some (Value.bool b)) hg10) (OpT_move rfl rfl rfl rfl) ?_
      rintro _ rfl
      refine Tops_yes rfl rfl (congrArg (fun b => some (Value.bool b)) hg10) (OpT_move rfl rfl rfl rfl) ?_
      rintro _ rfl
      refine Tops_yes rfl rfl (congrArg (fun b => some (Value.bool b)) hg10) (OpT_not rfl rfl rfl rfl) ?_
      rintro _ rfl
      obtain ⟨used6, hx13, h⟩ := ob_e h
      refine Tops_yes rfl rfl (congrArg (fun b => some (Value.bool b)) hg10) (OpT_call (w_desc_Used hx13) [] [] rfl rfl rfl rfl rfl callee11 rfl rfl rfl rfl) ?_
      rintro _ ⟨_, _, _, ⟨rfl, rfl, rfl⟩, rfl⟩
      refine Tops_yes rfl rfl (congrArg (fun b => some (Value.bool b)) hg10) (OpT_not rfl rfl rfl rfl) ?_
      rintro _ rfl
      refine Tops_step rfl (OpT_pickT rfl rfl rfl (congrArg (fun b => some (Value.bool b)) hg10) rfl) ?_
      refine Tops_step rfl (OpT_move rfl rfl rfl rfl) ?_
      obtain ⟨hg11, h⟩ := chk_e h
      refine Tops_yes rfl rfl (congrArg (fun b => some (Value.bool b)) hg11) (OpT_move rfl rfl rfl rfl) ?_
      rintro _ rfl
      refine Tops_yes rfl rfl (congrArg (fun b => some (Value.bool b)) hg11) (OpT_move rfl rfl rfl rfl) ?_
      rintro _ rfl
      obtain ⟨used7, hx14, h⟩ := ob_e h
      refine Tops_yes rfl rfl (congrArg (fun b => some (Value.bool b)) hg11) (OpT_call (w_desc_Used hx14) [] [] rfl rfl rfl rfl rfl callee11 rfl rfl rfl rfl) ?_
      rintro _ ⟨_, _, _, ⟨rfl, rfl, rfl⟩, rfl⟩
      refine Tops_step rfl (OpT_pickT rfl rfl rfl (congrArg (fun b => some (Value.bool b)) hg11) rfl) ?_
      refine Tops_step rfl (OpT_move rfl rfl rfl rfl) ?_
      obtain ⟨hg12, h⟩ := chk_e h
      refine Tops_yes rfl rfl (congrArg (fun b => some (Value.bool b)) hg12) (OpT_move rfl rfl rfl rfl) ?_
      rintro _ rfl
      refine Tops_yes rfl rfl (congrArg (fun b => some (Value.bool b)) hg12) (OpT_move rfl rfl rfl rfl) ?_
      rintro _ rfl
      obtain ⟨avail5, hx15, h⟩ := ob_e h
      refine Tops_yes rfl rfl (congrArg (fun b => some (Value.bool b)) hg12) (OpT_call (w_desc_Avail hx15) [] [] rfl rfl rfl rfl rfl callee10 rfl rfl rfl rfl) ?_
      rintro _ ⟨_, _, _, ⟨rfl, rfl, rfl⟩, rfl⟩
      refine Tops_yes rfl rfl (congrArg (fun b => some (Value.bool b)) hg12) (OpT_not rfl rfl rfl rfl) ?_
      rintro _ rfl
      refine Tops_step rfl (OpT_pickT rfl rfl rfl (congrArg (fun b => some (Value.bool b)) hg12) rfl) ?_
      refine Tops_step rfl (OpT_move rfl rfl rfl rfl) ?_
      obtain ⟨hg13, h⟩ := chk_e h
      refine Tops_yes rfl rfl (congrArg (fun b => some (Value.bool b)) hg13) (OpT_move rfl rfl rfl rfl) ?_
      rintro _ rfl
      refine Tops_yes rfl rfl (congrArg (fun b => some (Value.bool b)) hg13) (OpT_move rfl rfl rfl rfl) ?_
      rintro _ rfl
      refine Tops_yes rfl rfl (congrArg (fun b => some (Value.bool b)) hg13) (OpT_not rfl rfl rfl rfl) ?_
      rintro _ rfl
      obtain ⟨avail6, hx16, h⟩ := ob_e h
      refine Tops_yes rfl rfl (congrArg (fun b => some (Value.bool b)) hg13) (OpT_call (w_desc_Avail hx16) [] [] rfl rfl rfl rfl rfl callee10 rfl rfl rfl rfl) ?_
      rintro _ ⟨_, _, _, ⟨rfl, rfl, rfl⟩, rfl⟩
      refine Tops_yes rfl rfl (congrArg (fun b => some (Value.bool b)) hg13) (OpT_not rfl rfl rfl rfl) ?_
      rintro _ rfl
      refine Tops_step rfl (OpT_pickT rfl rfl rfl (congrArg (fun b => some (Value.bool b)) hg13) rfl) ?_
      refine Tops_step rfl (OpT_move rfl rfl rfl rfl) ?_
      obtain ⟨hg14, h⟩ := chk_e h
      refine Tops_yes rfl rfl (congrArg (fun b => some (Value.bool b)) hg14) (OpT_move rfl rfl rfl rfl) ?_
      rintro _ rfl
      refine Tops_yes rfl rfl (congrArg (fun b => some (Value.bool b)) hg14) (OpT_move rfl rfl rfl rfl) ?_
      rintro _ rfl
      refine Tops_yes rfl rfl (congrArg (fun b => some (Value.bool b)) hg14) (OpT_not rfl rfl rfl rfl) ?_
      rintro _ rfl
      obtain ⟨used8, hx17, h⟩ := ob_e h
      refine Tops_yes rfl rfl (congrArg (fun b => some (Value.bool b)) hg14) (OpT_call (w_desc_Used hx17) [] [] rfl rfl rfl rfl rfl callee11 rfl rfl rfl rfl) ?_
      rintro _ ⟨_, _, _, ⟨rfl, rfl, rfl⟩, rfl⟩
      refine Tops_yes rfl rfl (congrArg (fun b => some (Value.bool b)) hg14) (OpT_not rfl rfl rfl rfl) ?_
      rintro _ rfl
      refine Tops_step rfl (OpT_pickT rfl rfl rfl (congrArg (fun b => some (Value.bool b)) hg14) rfl) ?_
      refine Tops_step rfl (OpT_move rfl rfl rfl rfl) ?_
      obtain ⟨hg15, h⟩ := chk_e h
      refine Tops_yes rfl rfl (congrArg (fun b => some (Value.bool b)) hg15) (OpT_move rfl rfl rfl rfl) ?_
      rintro _ rfl
      refine Tops_yes rfl rfl (congrArg (fun b => some (Value.bool b)) hg15) (OpT_move rfl rfl rfl rfl) ?_
      rintro _ rfl
      refine Tops_yes rfl rfl (congrArg (fun b => some (Value.bool b)) hg15) (OpT_bin rfl rfl rfl rfl rfl (bin_and_u16 (a := mark1) (b := (32639 : UInt16)))) ?_
      rintro _ rfl
      refine Tops_yes rfl rfl (congrArg (fun b => some (Value.bool b)) hg15) (OpT_move rfl rfl rfl rfl) ?_
      rintro _ rfl
      refine Tops_yes rfl rfl (congrArg (fun b => some (Value.bool b)) hg15) (OpT_move rfl rfl rfl rfl) ?_
      rintro _ rfl
      refine Tops_yes rfl rfl (congrArg (fun b => some (Value.bool b)) hg15) (OpT_bin rfl rfl rfl rfl rfl (bin_and_u16 (a := flags) (b := (32639 : UInt16)))) ?_
      rintro _ rfl
      refine Tops_yes rfl rfl (congrArg (fun b => some (Value.bool b)) hg15) (OpT_bin rfl rfl rfl rfl rfl (bin_eql_u16 (a := mark1 &&& (32639 : UInt16)) (b := flags &&& (32639 : UInt16)))) ?_
      rintro _ rfl
      refine Tops_step rfl (OpT_pickT rfl rfl rfl (congrArg (fun b => some (Value.bool b)) hg15) rfl) ?_
      refine Tops_step rfl (OpT_move rfl rfl rfl rfl) ?_
      obtain ⟨hg16, h⟩ := chk_e h
      refine Tops_yes rfl rfl (congrArg (fun b => some (Value.bool b)) hg16) (OpT_move rfl rfl rfl rfl) ?_
      rintro _ rfl
      refine Tops_yes rfl rfl (congrArg (fun b => some (Value.bool b)) hg16) (OpT_move rfl rfl rfl rfl) ?_
      rintro _ rfl
      refine Tops_yes rfl rfl (congrArg (fun b => some (Value.bool b)) hg16) (OpT_bin rfl rfl rfl rfl rfl (bin_and_u16 (a := mark2) (b := (32639 : UInt16)))) ?_
      rintro _ rfl
      refine Tops_yes rfl rfl (congrArg (fun b => some (Value.bool b)) hg16) (OpT_move rfl rfl rfl rfl) ?_
      rintro _ rfl
      refine Tops_yes rfl rfl (congrArg (fun b => some (Value.bool b)) hg16) (OpT_move rfl rfl rfl rfl) ?_
      rintro _ rfl
      refine Tops_yes rfl rfl (congrArg (fun b => some (Value.bool b)) hg16) (OpT_bin rfl rfl rfl rfl rfl (bin_and_u16 (a := flags) (b := (32639 : UInt16)))) ?_
      rintro _ rfl
      refine Tops_yes rfl rfl (congrArg (fun b => some (Value.bool b)) hg16) (OpT_bin rfl rfl rfl rfl rfl (bin_eql_u16 (a := mark2 &&& (32639 : UInt16)) (b := flags &&& (32639 : UInt16)))) ?_
      rintro _ rfl
      refine Tops_step rfl (OpT_pickT rfl rfl rfl (congrArg (fun b => some (Value.bool b)) hg16) rfl) ?_
      refine Tops_step rfl (OpT_move rfl rfl rfl rfl) ?_
      obtain ⟨hg17, h⟩ := chk_e h
      refine Tops_yes rfl rfl (congrArg (fun b => some (Value.bool b)) hg17) (OpT_move rfl rfl rfl rfl) ?_
      rintro _ rfl
      refine Tops_yes rfl rfl (congrArg (fun b => some (Value.bool b)) hg17) (OpT_move rfl rfl rfl rfl) ?_
      rintro _ rfl
      obtain ⟨mark3, hx18, h⟩ := ob_e h
      refine Tops_yes rfl rfl (congrArg (fun b => some (Value.bool b)) hg17) (OpT_call (w_desc_Mark hx18) [] [] rfl rfl rfl rfl rfl callee9 rfl rfl rfl rfl) ?_
      rintro _ ⟨_, _, _, ⟨rfl, rfl, rfl⟩, rfl⟩
      refine Tops_yes rfl rfl (congrArg (fun b => some (Value.bool b)) hg17) (OpT_move rfl rfl rfl rfl) ?_
      rintro _ rfl
      refine Tops_yes rfl rfl (congrArg (fun b => some (Value.bool b)) hg17) (OpT_bin rfl rfl rfl rfl rfl (bin_eql_u16 (a := mark3) (b := mark2))) ?_
      rintro _ rfl
      refine Tops_step rfl (OpT_pickT rfl rfl rfl (congrArg (fun b => some (Value.bool b)) hg17) rfl) ?_
      refine Tops_step rfl (OpT_move rfl rfl rfl rfl) ?_
      obtain ⟨hg18, h⟩ := chk_e h
      refine Tops_yes rfl rfl (congrArg (fun b => some (Value.bool b)) hg18) (OpT_move rfl rfl rfl rfl) ?_
      rintro _ rfl
      refine Tops_yes rfl rfl (congrArg (fun b => some (Value.bool b)) hg18) (OpT_move rfl rfl rfl rfl) ?_
      rintro _ rfl
      obtain ⟨mark4, hx19, h⟩ := ob_e h
      refine Tops_yes rfl rfl (congrArg (fun b => some (Value.bool b)) hg18) (OpT_call (w_desc_Mark hx19) [] [] rfl rfl rfl rfl rfl callee9 rfl rfl rfl rfl) ?_
      rintro _ ⟨_, _, _, ⟨rfl, rfl, rfl⟩, rfl⟩
      refine Tops_yes rfl rfl (congrArg (fun b => some (Value.bool b)) hg18) (OpT_move rfl rfl rfl rfl) ?_
      rintro _ rfl
      refine Tops_yes rfl rfl (congrArg (fun b => some (Value.bool b)) hg18) (OpT_bin rfl rfl rfl rfl rfl (bin_eql_u16 (a := mark4) (b := mark1))) ?_
      rintro _ rfl
      refine Tops_step rfl (OpT_pickT rfl rfl rfl (congrArg (fun b => some (Value.bool b)) hg18) rfl) ?_
      refine Tops_step rfl (OpT_assign rfl rfl rfl rfl) ?_
      refine Tops_nil ?_
      refine Tk_wk (fr' := [(4, some (vB (mark4 == mark1)))]) (own' := []) (shr' := []) [] [] rfl ⟨fun _ h => h, trivial⟩ rfl rfl ?_
      obtain ⟨hg19, h⟩ := chk_e h
      exact Tk_retV rfl (resA (vs := [.bool true]) rfl ⟨(congrArg (fun b => some (Value.bool b)) hg19), trivial⟩) [] [] rfl rfl rfl ⟨rfl, rfl, rfl⟩
    · replace h := br_f hg6 h
      refine Tops_no rfl rfl (congrArg (fun b => some (Value.bool b)) hg6) rfl rfl ?_
      refine Tops_no rfl rfl (congrArg (fun b => some (Value.bool b)) hg6) rfl rfl ?_
      refine Tops_no rfl rfl (congrArg (fun b => some (Value.bool b)) hg6) rfl rfl ?_
      refine Tops_no rfl rfl (congrArg (fun b => some (Value.bool b)) hg6) rfl rfl ?_
      refine Tops_yes rfl rfl (congrArg (fun b => some (Value.bool b)) hg5) (OpT_pickF rfl rfl rfl (congrArg (fun b => some (Value.bool b)) hg6) rfl) ?_
      rintro _ rfl
      refine Tops_step rfl (OpT_pickF rfl rfl rfl (congrArg (fun b => some (Value.bool b)) hg5) rfl) ?_
      refine Tops_nil ?_
      refine Tk_wk (fr' := [(0, some (vU16 flags)), (1, some (vB wrap)), (5, some (vU16 mark1)), (6, some (vU16 mark2)), (7, some (vU16 (32639 : UInt16))), (46, some (vB false))]) (own' := []) (shr' := []) [] [] rfl ⟨fun _ h => h, fun _ h => h, fun _ h => h, fun _ h => h, fun _ h => h, fun _ h => h, trivial⟩ rfl rfl ?_
      refine Tk_condF rfl ?_
      refine Tk_skip ?_
      refine Tk_seq ?_
      refine Tk_region ?_
      refine Tops_step rfl (OpT_move rfl rfl rfl rfl) ?_
      refine Tops_step rfl (OpT_move rfl rfl rfl rfl) ?_
      obtain ⟨avail7, hx20, h⟩ := ob_e h
      refine Tops_exP rfl (OpT_call (w_desc_Avail hx20) [] [] rfl rfl rfl rfl rfl callee10 rfl rfl rfl rfl) ?_
      rintro _ ⟨_, _, _, ⟨rfl, rfl, rfl⟩, rfl⟩
      refine Tops_step rfl (OpT_move rfl rfl rfl rfl) ?_
      obtain ⟨hg20, h⟩ := chk_e h
      refine Tops_yes rfl rfl (congrArg (fun b => some (Value.bool b)) hg20) (OpT_move rfl rfl rfl rfl) ?_
      rintro _ rfl
      refine Tops_yes rfl rfl (congrArg (fun b => some (Value.bool b)) hg20) (OpT_move rfl rfl rfl rfl) ?_
      rintro _ rfl
      obtain ⟨used9, hx21, h⟩ := ob_e h
      refine Tops_yes rfl rfl (congrArg (fun b => some (Value.bool b)) hg20) (OpT_call (w_desc_Used hx21) [] [] rfl rfl rfl rfl rfl callee11 rfl rfl rfl rfl) ?_
      rintro _ ⟨_, _, _, ⟨rfl, rfl, rfl⟩, rfl⟩
      refine Tops_yes rfl rfl (congrArg (fun b => some (Value.bool b)) hg20) (OpT_not rfl rfl rfl rfl) ?_
      rintro _ rfl
      refine Tops_step rfl (OpT_pickT rfl rfl rfl (congrArg (fun b => some (Value.bool b)) hg20) rfl) ?_
      refine Tops_step rfl (OpT_move rfl rfl rfl rfl) ?_
      obtain ⟨hg21, h⟩ := chk_e h
      refine Tops_yes rfl rfl (congrArg (fun b => some (Value.bool b)) hg21) (OpT_move rfl rfl rfl rfl) ?_
      rintro _ rfl
      refine Tops_yes rfl rfl (congrArg (fun b => some (Value.bool b)) hg21) (OpT_move rfl rfl rfl rfl) ?_
      rintro _ rfl
      refine Tops_yes rfl rfl (congrArg (fun b => some (Value.bool b)) hg21) (OpT_not rfl rfl rfl rfl) ?_
      rintro _ rfl
      obtain ⟨avail8, hx22, h⟩ := ob_e h
      refine Tops_yes rfl rfl (congrArg (fun b => some (Value.bool b)) hg21) (OpT_call (w_desc_Avail hx22) [] [] rfl rfl rfl rfl rfl callee10 rfl rfl rfl rfl) ?_
      rintro _ ⟨_, _, _, ⟨rfl, rfl, rfl⟩, rfl⟩
      refine Tops_yes rfl rfl (congrArg (fun b => some (Value.bool b)) hg21) (OpT_not rfl rfl rfl rfl) ?_
      rintro _ rfl
      refine Tops_step rfl (OpT_pickT rfl rfl rfl (congrArg (fun b => some (Value.bool b)) hg21) rfl) ?_
      refine Tops_step rfl (OpT_move rfl rfl rfl rfl) ?_
      obtain ⟨hg22, h⟩ := chk_e h
      refine Tops_yes rfl rfl (congrArg (fun b => some (Value.bool b)) hg22) (OpT_move rfl rfl rfl rfl) ?_
      rintro _ rfl
      refine Tops_yes rfl rfl (congrArg (fun b => some (Value.bool b)) hg22) (OpT_move rfl rfl rfl rfl) ?_
      rintro _ rfl
      refine Tops_yes rfl rfl (congrArg (fun b => some (Value.bool b)) hg22) (OpT_not rfl rfl rfl rfl) ?_
      rintro _ rfl
      obtain ⟨used10, hx23, h⟩ := ob_e h
      refine Tops_yes rfl rfl (congrArg (fun b => some (Value.bool b)) hg22) (OpT_call (w_desc_Used hx23) [] [] rfl rfl rfl rfl rfl callee11 rfl rfl rfl rfl) ?_
      rintro _ ⟨_, _, _, ⟨rfl, rfl, rfl⟩, rfl⟩
      refine Tops_yes rfl rfl (congrArg (fun b => some (Value.bool b)) hg22) (OpT_not rfl rfl rfl rfl) ?_
      rintro _ rfl
      refine Tops_step rfl (OpT_pickT rfl rfl rfl (congrArg (fun b => some (Value.bool b)) hg22) rfl) ?_
      refine Tops_step rfl (OpT_move rfl rfl rfl rfl) ?_
      obtain ⟨hg23, h⟩ := chk_e h
      refine Tops_yes rfl rfl (congrArg (fun b => some (Value.bool b)) hg23) (OpT_move rfl rfl rfl rfl) ?_
      rintro _ rfl
      refine Tops_yes rfl rfl (congrArg (fun b => some (Value.bool b)) hg23) (OpT_move rfl rfl rfl rfl) ?_
      rintro _ rfl
      obtain ⟨used11, hx24, h⟩ := ob_e h
      refine Tops_yes rfl rfl (congrArg (fun b => some (Value.bool b)) hg23) (OpT_call (w_desc_Used hx24) [] [] rfl rfl rfl rfl rfl callee11 rfl rfl rfl rfl) ?_
      rintro _ ⟨_, _, _, ⟨rfl, rfl, rfl⟩, rfl⟩
      refine Tops_step rfl (OpT_pickT rfl rfl rfl (congrArg (fun b => some (Value.bool b)) hg23) rfl) ?_
      refine Tops_step rfl (OpT_move rfl rfl rfl rfl) ?_
      obtain ⟨hg24, h⟩ := chk_e h
      refine Tops_yes rfl rfl (congrArg (fun b => some (Value.bool b)) hg24) (OpT_move rfl rfl rfl rfl) ?_
      rintro _ rfl
      refine Tops_yes rfl rfl (congrArg (fun b => some (Value.bool b)) hg24) (OpT_move rfl rfl rfl rfl) ?_
      rintro _ rfl
      obtain ⟨avail9, hx25, h⟩ := ob_e h
      refine Tops_yes rfl rfl (congrArg (fun b => some (Value.bool b)) hg24) (OpT_call (w_desc_Avail hx25) [] [] rfl rfl rfl rfl rfl callee10 rfl rfl rfl rfl) ?_
      rintro _ ⟨_, _, _, ⟨rfl, rfl, rfl⟩, rfl⟩
      refine Tops_yes rfl rfl (congrArg (fun b => some (Value.bool b)) hg24) (OpT_not rfl rfl rfl rfl) ?_
      rintro _ rfl
      refine Tops_step rfl (OpT_pickT rfl rfl rfl (congrArg (fun b => some (Value.bool b)) hg24) rfl) ?_
      refine Tops_step rfl (OpT_move rfl rfl rfl rfl) ?_
      obtain ⟨hg25, h⟩ := chk_e h
      refine Tops_yes rfl rfl (congrArg (fun b => some (Value.bool b)) hg25) (OpT_move rfl rfl rfl rfl) ?_
      rintro _ rfl
      refine Tops_yes rfl rfl (congrArg (fun b => some (Value.bool b)) hg25) (OpT_move rfl rfl rfl rfl) ?_
      rintro _ rfl
      refine Tops_yes rfl rfl (congrArg (fun b => some (Value.bool b)) hg25) (OpT_not rfl rfl rfl rfl) ?_
      rintro _ rfl
      obtain ⟨avail10, hx26, h⟩ := ob_e h
      refine Tops_yes rfl rfl (congrArg (fun b => some (Value.bool b)) hg25) (OpT_call (w_desc_Avail hx26) [] [] rfl rfl rfl rfl rfl callee10 rfl rfl rfl rfl) ?_
      rintro _ ⟨_, _, _, ⟨rfl, rfl, rfl⟩, rfl⟩
      refine Tops_yes rfl rfl (congrArg (fun b => some (Value.bool b)) hg25) (OpT_not rfl rfl rfl rfl) ?_
      rintro _ rfl
      refine Tops_step rfl (OpT_pickT rfl rfl rfl (congrArg (fun b => some (Value.bool b)) hg25) rfl) ?_
      refine Tops_step rfl (OpT_move rfl rfl rfl rfl) ?_
      obtain ⟨hg26, h⟩ := chk_e h
      refine Tops_yes rfl rfl (congrArg (fun b => some (Value.bool b)) hg26) (OpT_move rfl rfl rfl rfl) ?_
      rintro _ rfl
      refine Tops_yes rfl rfl (congrArg (fun b => some (Value.bool b)) hg26) (OpT_move rfl rfl rfl rfl) ?_
      rintro _ rfl
      refine Tops_yes rfl rfl (congrArg (fun b => some (Value.bool b)) hg26) (OpT_not rfl rfl rfl rfl) ?_
      rintro _ rfl
      obtain ⟨used12, hx27, h⟩ := ob_e h
      refine Tops_yes rfl rfl (congrArg (fun b => some (Value.bool b)) hg26) (OpT_call (w_desc_Used hx27) [] [] rfl rfl rfl rfl rfl callee11 rfl rfl rfl rfl) ?_
      rintro _ ⟨_, _, _, ⟨rfl, rfl, rfl⟩, rfl⟩
      refine Tops_yes rfl rfl (congrArg (fun b => some (Value.bool b)) hg26) (OpT_not rfl rfl rfl rfl) ?_
      rintro _ rfl
      refine Tops_step rfl (OpT_pickT rfl rfl rfl (congrArg (fun b => some (Value.bool b)) hg26) rfl) ?_
      refine Tops_step rfl (OpT_move rfl rfl rfl rfl) ?_
      obtain ⟨hg27, h⟩ := chk_e h
      refine Tops_yes rfl rfl (congrArg (fun b => some (Value.bool b)) hg27) (OpT_move rfl rfl rfl rfl) ?_
      rintro _ rfl
      refine Tops_yes rfl rfl (congrArg (fun b => some (Value.bool b)) hg27) (OpT_move rfl rfl rfl rfl) ?_
      rintro _ rfl
      refine Tops_yes rfl rfl (congrArg (fun b => some (Value.bool b)) hg27) (OpT_bin rfl rfl rfl rfl rfl (bin_and_u16 (a := mark1) (b := (32639 : UInt16)))) ?_
      rintro _ rfl
      refine Tops_yes rfl rfl (congrArg (fun b => some (Value.bool b)) hg27) (OpT_move rfl rfl rfl rfl) ?_
      rintro _ rfl
      refine Tops_yes rfl rfl (congrArg (fun b => some (Value.bool b)) hg27) (OpT_move rfl rfl rfl rfl) ?_
      rintro _ rfl
      refine Tops_yes rfl rfl (congrArg (fun b => some (Value.bool b)) hg27) (OpT_bin rfl rfl rfl rfl rfl (bin_and_u16 (a := flags) (b := (32639 : UInt16)))) ?_
      rintro _ rfl
      refine Tops_yes rfl rfl (congrArg (fun b => some (Value.bool b)) hg27) (OpT_bin rfl rfl rfl rfl rfl (bin_eql_u16 (a := mark1 &&& (32639 : UInt16)) (b := flags &&& (32639 : UInt16)))) ?_
      rintro _ rfl
      refine Tops_step rfl (OpT_pickT rfl rfl rfl (congrArg (fun b => some (Value.bool b)) hg27) rfl) ?_
      refine Tops_step rfl (OpT_move rfl rfl rfl rfl) ?_
      obtain ⟨hg28, h⟩ := chk_e h
      refine Tops_yes rfl rfl (congrArg (fun b => some (Value.bool b)) hg28) (OpT_move rfl rfl rfl rfl) ?_
      rintro _ rfl
      refine Tops_yes rfl rfl (congrArg (fun b => some (Value.bool b)) hg28) (OpT_move rfl rfl rfl rfl) ?_
      rintro _ rfl
      refine Tops_yes rfl rfl (congrArg (fun b => some (Value.bool b)) hg28) (OpT_bin rfl rfl rfl rfl rfl (bin_and_u16 (a := mark2) (b := (32639 : UInt16)))) ?_
      rintro _ rfl
      refine Tops_yes rfl rfl (congrArg (fun b => some (Value.bool b)) hg28) (OpT_move rfl rfl rfl rfl) ?_
      rintro _ rfl
      refine Tops_yes rfl rfl (congrArg (fun b => some (Value.bool b)) hg28) (OpT_move rfl rfl rfl rfl) ?_
      rintro _ rfl
      refine Tops_yes rfl rfl (congrArg (fun b => some (Value.bool b)) hg28) (OpT_bin rfl rfl rfl rfl rfl (bin_and_u16 (a := flags) (b := (32639 : UInt16)))) ?_
      rintro _ rfl
      refine Tops_yes rfl rfl (congrArg (fun b => some (Value.bool b)) hg28) (OpT_bin rfl rfl rfl rfl rfl (bin_eql_u16 (a := mark2 &&& (32639 : UInt16)) (b := flags &&& (32639 : UInt16)))) ?_
      rintro _ rfl
      refine Tops_step rfl (OpT_pickT rfl rfl rfl (congrArg (fun b => some (Value.bool b)) hg28) rfl) ?_
      refine Tops_step rfl (OpT_move rfl rfl rfl rfl) ?_
      obtain ⟨hg29, h⟩ := chk_e h
      refine Tops_yes rfl rfl (congrArg (fun b => some (Value.bool b)) hg29) (OpT_move rfl rfl rfl rfl) ?_
      rintro _ rfl
      refine Tops_yes rfl rfl (congrArg (fun b => some (Value.bool b)) hg29) (OpT_move rfl rfl rfl rfl) ?_
      rintro _ rfl
      obtain ⟨mark5, hx28, h⟩ := ob_e h
      refine Tops_yes rfl rfl (congrArg (fun b => some (Value.bool b)) hg29) (OpT_call (w_desc_Mark hx28) [] [] rfl rfl rfl rfl rfl callee9 rfl rfl rfl rfl) ?_
      rintro _ ⟨_, _, _, ⟨rfl, rfl, rfl⟩, rfl⟩
      refine Tops_yes rfl rfl (congrArg (fun b => some (Value.bool b)) hg29) (OpT_move rfl rfl rfl rfl) ?_
      rintro _ rfl
      refine Tops_yes rfl rfl (congrArg (fun b => some (Value.bool b)) hg29) (OpT_bin rfl rfl rfl rfl rfl (bin_eql_u16 (a := mark5) (b := mark2))) ?_
      rintro _ rfl
      refine Tops_step rfl (OpT_pickT rfl rfl rfl (congrArg (fun b => some (Value.bool b)) hg29) rfl) ?_
      refine Tops_step rfl (OpT_move rfl rfl rfl rfl) ?_
      obtain ⟨hg30, h⟩ := chk_e h
      refine Tops_yes rfl rfl (congrArg (fun b => some (Value.bool b)) hg30) (OpT_move rfl rfl rfl rfl) ?_
      rintro _ rfl
      refine Tops_yes rfl rfl (congrArg (fun b => some (Value.bool b)) hg30) (OpT_move rfl rfl rfl rfl) ?_
      rintro _ rfl
      obtain ⟨mark6, hx29, h⟩ := ob_e h
      refine Tops_yes rfl rfl (congrArg (fun b => some (Value.bool b)) hg30) (OpT_call (w_desc_Mark hx29) [] [] rfl rfl rfl rfl rfl callee9 rfl rfl rfl rfl) ?_
      rintro _ ⟨_, _, _, ⟨rfl, rfl, rfl⟩, rfl⟩
      refine Tops_yes rfl rfl (congrArg (fun b => some (Value.bool b)) hg30) (OpT_move rfl rfl rfl rfl) ?_
      rintro _ rfl
      refine Tops_yes rfl rfl (congrArg (fun b => some (Value.bool b)) hg30) (OpT_bin rfl rfl rfl rfl rfl (bin_eql_u16 (a := mark6) (b := mark1))) ?_
      rintro _ rfl
      refine Tops_step rfl (OpT_pickT rfl rfl rfl (congrArg (fun b => some (Value.bool b)) hg30) rfl) ?_
      refine Tops_step rfl (OpT_assign rfl rfl rfl rfl) ?_
      refine Tops_nil ?_
      refine Tk_wk (fr' := [(4, some (vB (mark6 == mark1)))]) (own' := []) (shr' := []) [] [] rfl ⟨fun _ h => h, trivial⟩ rfl rfl ?_
      obtain ⟨hg31, h⟩ := chk_e h
      exact Tk_retV rfl (resA (vs := [.bool true]) rfl ⟨(congrArg (fun b => some (Value.bool b)) hg31), trivial⟩) [] [] rfl rfl rfl ⟨rfl, rfl, rfl⟩
  · replace h := br_f hg2 h
    refine Tops_no rfl rfl (congrArg (fun b => some (Value.bool b)) hg2) rfl rfl ?_
    refine Tops_no rfl rfl (congrArg (fun b => some (Value.bool b)) hg2) rfl rfl ?_
    refine Tops_no rfl rfl (congrArg (fun b => some (Value.bool b)) hg2) rfl rfl ?_
    refine Tops_no rfl rfl (congrArg (fun b => some (Value.bool b)) hg2) rfl rfl ?_
    refine Tops_noU rfl rfl rfl rfl rfl ?_
    refine Tops_noU rfl rfl rfl rfl rfl ?_
    refine Tops_noU rfl rfl rfl rfl rfl ?_
    refine Tops_noU rfl rfl rfl rfl rfl ?_
    refine Tops_no rfl rfl (congrArg (fun b => some (Value.bool b)) hg2) rfl rfl ?_
    refine Tops_no rfl rfl (congrArg (fun b => some (Value.bool b)) hg2) rfl rfl ?_
    refine Tops_noU rfl rfl rfl rfl rfl ?_
    refine Tops_noU rfl rfl rfl rfl rfl ?_
    refine Tops_noU rfl rfl rfl rfl rfl ?_
    refine Tops_noU rfl rfl rfl rfl rfl ?_
    refine Tops_no rfl rfl (congrArg (fun b => some (Value.bool b)) hg2) rfl rfl ?_
    refine Tops_step rfl (OpT_pickF rfl rfl rfl (congrArg (fun b => some (Value.bool b)) hg2) rfl) ?_
    refine Tops_step rfl (OpT_move rfl rfl rfl rfl) ?_
    refine Tops_yes rfl rfl rfl (OpT_move rfl rfl rfl rfl) ?_
    rintro _ rfl
    refine Tops_yes rfl rfl rfl (OpT_move rfl rfl rfl rfl) ?_
    rintro _ rfl
    obtain ⟨used13, hx30, h⟩ := ob_e h
    refine Tops_yes rfl rfl rfl (OpT_call (w_desc_Used hx30) [] [] rfl rfl rfl rfl rfl callee11 rfl rfl rfl rfl) ?_
    rintro _ ⟨_, _, _, ⟨rfl, rfl, rfl⟩, rfl⟩
    refine Tops_yes rfl rfl rfl (OpT_move rfl rfl rfl rfl) ?_
    rintro _ rfl
    rcases Bool.eq_false_or_eq_true (used13) with hg32 | hg32
    · replace h := br_t hg32 h
      refine Tops_yes rfl rfl (congrArg (fun b => some (Value.bool b)) hg32) (OpT_move rfl rfl rfl rfl) ?_
      rintro _ rfl
      refine Tops_yes rfl rfl (congrArg (fun b => some (Value.bool b)) hg32) (OpT_move rfl rfl rfl rfl) ?_
      rintro _ rfl
      refine Tops_yes rfl rfl (congrArg (fun b => some (Value.bool b)) hg32) (OpT_not rfl rfl rfl rfl) ?_
      rintro _ rfl
      obtain ⟨used14, hx31, h⟩ := ob_e h
      refine Tops_yes rfl rfl (congrArg (fun b => some (Value.bool b)) hg32) (OpT_call (w_desc_Used hx31) [] [] rfl rfl rfl rfl rfl callee11 rfl rfl rfl rfl) ?_
      rintro _ ⟨_, _, _, ⟨rfl, rfl, rfl⟩, rfl⟩
      refine Tops_yes rfl rfl rfl (OpT_pickT rfl rfl rfl (congrArg (fun b => some (Value.bool b)) hg32) rfl) ?_
      rintro _ rfl
      refine Tops_step rfl (OpT_pickF rfl rfl rfl rfl rfl) ?_
      refine Tops_nil ?_
      refine Tk_wk (fr' := [(0, some (vU16 flags)), (1, some (vB wrap)), (5, some (vU16 mark1)), (6, some (vU16 mark2)), (7, some (vU16 (32639 : UInt16))), (46, some (vB used14))]) (own' := []) (shr' := []) [] [] rfl ⟨fun _ h => h, fun _ h => h, fun _ h => h, fun _ h => h, fun _ h => h, fun _ h => h, trivial⟩ rfl rfl ?_
      obtain ⟨hg33, h⟩ := chk_e h
      replace hg33 := not_t hg33
      refine Tk_condF (congrArg (fun b => some (Value.bool b)) hg33) ?_
      refine Tk_skip ?_
      refine Tk_seq ?_
      refine Tk_region ?_
      refine Tops_step rfl (OpT_move rfl rfl rfl rfl) ?_
      refine Tops_step rfl (OpT_move rfl rfl rfl rfl) ?_
      obtain ⟨avail11, hx32, h⟩ := ob_e h
      refine Tops_exP rfl (OpT_call (w_desc_Avail hx32) [] [] rfl rfl rfl rfl rfl callee10 rfl rfl rfl rfl) ?_
      rintro _ ⟨_, _, _, ⟨rfl, rfl, rfl⟩, rfl⟩
      refine Tops_step rfl (OpT_move rfl rfl rfl rfl) ?_
      obtain ⟨hg34, h⟩ := chk_e h
      refine Tops_yes rfl rfl (congrArg (fun b => some (Value.bool b)) hg34) (OpT_move rfl rfl rfl rfl) ?_
      rintro _ rfl
      refine Tops_yes rfl rfl (congrArg (fun b => some (Value.bool b)) hg34) (OpT_move rfl rfl rfl rfl) ?_
      rintro _ rfl
      obtain ⟨used15, hx33, h⟩ := ob_e h
      refine Tops_yes rfl rfl (congrArg (fun b => some (Value.bool b)) hg34) (OpT_call (w_desc_Used hx33) [] [] rfl rfl rfl rfl rfl callee11 rfl rfl rfl rfl) ?_
      rintro _ ⟨_, _, _, ⟨rfl, rfl, rfl⟩, rfl⟩
      refine Tops_yes rfl rfl (congrArg (fun b => some (Value.bool b)) hg34) (OpT_not rfl rfl rfl rfl) ?_
      rintro _ rfl
      refine Tops_step rfl (OpT_pickT rfl rfl rfl (congrArg (fun b => some (Value.bool b)) hg34) rfl) ?_
      refine Tops_step rfl (OpT_move rfl rfl rfl rfl) ?_
      obtain ⟨hg35, h⟩ := chk_e h
      refine Tops_yes rfl rfl (congrArg (fun b => some (Value.bool b)) hg35) (OpT_move rfl rfl rfl rfl) ?_
      rintro _ rfl
      refine Tops_yes rfl rfl (congrArg (fun b => some (Value.bool b)) hg35) (OpT_move rfl rfl rfl rfl) ?_
      rintro _ rfl
      refine Tops_yes rfl rfl (congrArg (fun b => some (Value.bool b)) hg35) (OpT_not rfl rfl rfl rfl) ?_
      rintro _ rfl
      obtain ⟨avail12, hx34, h⟩ := ob_e h
      refine Tops_yes rfl rfl (congrArg (fun b => some (Value.bool b)) hg35) (OpT_call (w_desc_Avail hx34) [] [] rfl rfl rfl rfl rfl callee10 rfl rfl rfl rfl) ?_
      rintro _ ⟨_, _, _, ⟨rfl, rfl, rfl⟩, rfl⟩
      refine Tops_yes rfl rfl (congrArg (fun b => some (Value.bool b)) hg35) (OpT_not rfl rfl rfl rfl) ?_
      rintro _ rfl
      refine Tops_step rfl (OpT_pickT rfl rfl rfl (congrArg (fun b => some (Value.bool b)) hg35) rfl) ?_
      refine Tops_step rfl (OpT_move rfl rfl rfl rfl) ?_
      obtain ⟨hg36, h⟩ := chk_e h
      refine Tops_yes rfl rfl (congrArg (fun b => some (Value.bool b)) hg36) (OpT_move rfl rfl rfl rfl) ?_
      rintro _ rfl
      refine Tops_yes rfl rfl (congrArg (fun b => some (Value.bool b)) hg36) (OpT_move rfl rfl rfl rfl) ?_
      rintro _ rfl
      refine Tops_yes rfl rfl (congrArg (fun b => some (Value.bool b)) hg36) (OpT_not rfl rfl rfl rfl) ?_
      rintro _ rfl
      obtain ⟨used16, hx35, h⟩ := ob_e h
      refine Tops_yes rfl rfl (congrArg (fun b => some (Value.bool b)) hg36) (OpT_call (w_desc_Used hx35) [] [] rfl rfl rfl rfl rfl callee11 rfl rfl rfl rfl) ?_
      rintro _ ⟨_, _, _, ⟨rfl, rfl, rfl⟩, rfl⟩
      refine Tops_yes rfl rfl (congrArg (fun b => some (Value.bool b)) hg36) (OpT_not rfl rfl rfl rfl) ?_
      rintro _ rfl
      refine Tops_step rfl (OpT_pickT rfl rfl rfl (congrArg (fun b => some (Value.bool b)) hg36) rfl) ?_
      refine Tops_step rfl (OpT_move rfl rfl rfl rfl) ?_
      obtain ⟨hg37, h⟩ := chk_e h
      refine Tops_yes rfl rfl (congrArg (fun b => some (Value.bool b)) hg37) (OpT_move rfl rfl rfl rfl) ?_
      rintro _ rfl
      refine Tops_yes rfl rfl (congrArg (fun b => some (Value.bool b)) hg37) (OpT_move rfl rfl rfl rfl) ?_
      rintro _ rfl
      obtain ⟨used17, hx36, h⟩ := ob_e h
      refine Tops_yes rfl rfl (congrArg (fun b => some (Value.bool b)) hg37) (OpT_call (w_desc_Used hx36) [] [] rfl rfl rfl rfl rfl callee11 rfl rfl rfl rfl) ?_
      rintro _ ⟨_, _, _, ⟨rfl, rfl, rfl⟩, rfl⟩
      refine Tops_step rfl (OpT_pickT rfl rfl rfl (congrArg (fun b => some (Value.bool b)) hg37) rfl) ?_
      refine Tops_step rfl (OpT_move rfl rfl rfl rfl) ?_
      obtain ⟨hg38, h⟩ := chk_e h
      refine Tops_yes rfl rfl (congrArg (fun b => some (Value.bool b)) hg38) (OpT_move rfl rfl rfl rfl) ?_
      rintro _ rfl
      refine Tops_yes rfl rfl (congrArg (fun b => some (Value.bool b)) hg38) (OpT_move rfl rfl rfl rfl) ?_
      rintro _ rfl
      obtain ⟨avail13, hx37, h⟩ := ob_e h
      refine Tops_yes rfl rfl (congrArg (fun b => some (Value.bool b)) hg38) (OpT_call (w_desc_Avail hx37) [] [] rfl rfl rfl rfl rfl callee10 rfl rfl rfl rfl) ?_
      rintro _ ⟨_, _, _, ⟨rfl, rfl, rfl⟩, rfl⟩
      refine Tops_yes rfl rfl (congrArg (fun b => some (Value.bool b)) hg38) (OpT_not rfl rfl rfl rfl) ?_
      rintro _ rfl
      refine Tops_step rfl (OpT_pickT rfl rfl rfl (congrArg (fun b => some (Value.bool b)) hg38) rfl) ?_
      refine Tops_step rfl (OpT_move rfl rfl rfl rfl) ?_
      obtain ⟨hg39, h⟩ := chk_e h
      refine Tops_yes rfl rfl (congrArg (fun b => some (Value.bool b)) hg39) (OpT_move rfl rfl rfl rfl) ?_
      rintro _ rfl
      refine Tops_yes rfl rfl (congrArg (fun b => some (Value.bool b)) hg39) (OpT_move rfl rfl rfl rfl) ?_
      rintro _ rfl
      refine Tops_yes rfl rfl (congrArg (fun b => some (Value.bool b)) hg39) (OpT_not rfl rfl rfl rfl) ?_
      rintro _ rfl
      obtain ⟨avail14, hx38, h⟩ := ob_e h
      refine Tops_yes rfl rfl (congrArg (fun b => some (Value.bool b)) hg39) (OpT_call (w_desc_Avail hx38) [] [] rfl rfl rfl rfl rfl callee10 rfl rfl rfl rfl) ?_
      rintro _ ⟨_, _, _, ⟨rfl, rfl, rfl⟩, rfl⟩
      refine Tops_yes rfl rfl (congrArg (fun b => some (Value.bool b)) hg39) (OpT_not rfl rfl rfl rfl) ?_
      rintro _ rfl
      refine Tops_step rfl (OpT_pickT rfl rfl rfl (congrArg (fun b => some (Value.bool b)) hg39) rfl) ?_
      refine Tops_step rfl (OpT_move rfl rfl rfl rfl) ?_
      obtain ⟨hg40, h⟩ := chk_e h
      refine Tops_yes rfl rfl (congrArg (fun b => some (Value.bool b)) hg40) (OpT_move rfl rfl rfl rfl) ?_
      rintro _ rfl
      refine Tops_yes rfl rfl (congrArg (fun b => some (Value.bool b)) hg40) (OpT_move rfl rfl rfl rfl) ?_
      rintro _ rfl
      refine Tops_yes rfl rfl (congrArg (fun b => some (Value.bool b)) hg40) (OpT_not rfl rfl rfl rfl) ?_
      rintro _ rfl
      obtain ⟨used18, hx39, h⟩ := ob_e h
      refine Tops_yes rfl rfl (congrArg (fun b => some (Value.bool b)) hg40) (OpT_call (w_desc_Used hx39) [] [] rfl rfl rfl rfl rfl callee11 rfl rfl rfl rfl) ?_
      rintro _ ⟨_, _, _, ⟨rfl, rfl, rfl⟩, rfl⟩
      refine Tops_yes rfl rfl (congrArg (fun b => some (Value.bool b)) hg40) (OpT_not rfl rfl rfl rfl) ?_
      rintro _ rfl
      refine Tops_step rfl (OpT_pickT rfl rfl rfl (congrArg (fun b => some (Value.bool b)) hg40) rfl) ?_
      refine Tops_step rfl (OpT_move rfl rfl rfl rfl) ?_
      obtain ⟨hg41, h⟩ := chk_e h
      refine Tops_yes rfl rfl (congrArg (fun b => some (Value.bool b)) hg41) (OpT_move rfl rfl rfl rfl) ?_
      rintro _ rfl
      refine Tops_yes rfl rfl (congrArg (fun b => some (Value.bool b)) hg41) (OpT_move rfl rfl rfl rfl) ?_
      rintro _ rfl
      refine Tops_yes rfl rfl (congrArg (fun b => some (Value.bool b)) hg41) (OpT_bin rfl rfl rfl rfl rfl (bin_and_u16 (a := mark1) (b := (32639 : UInt16)))) ?_
      rintro _ rfl
      refine Tops_yes rfl rfl (congrArg (fun b => some (Value.bool b)) hg41) (OpT_move rfl rfl rfl rfl) ?_
      rintro _ rfl
      refine Tops_yes rfl rfl (congrArg (fun b => some (Value.bool b)) hg41) (OpT_move rfl rfl rfl rfl) ?_
      rintro _ rfl
      refine Tops_yes rfl rfl (congrArg (fun b => some (Value.bool b)) hg41) (OpT_bin rfl rfl rfl rfl rfl (bin_and_u16 (a := flags) (b := (32639 : UInt16)))) ?_
      rintro _ rfl
      refine Tops_yes rfl rfl (congrArg (fun b => some (Value.bool b)) hg41) (OpT_bin rfl rfl rfl rfl rfl (bin_eql_u16 (a := mark1 &&& (32639 : UInt16)) (b := flags &&& (32639 : UInt16)))) ?_
      rintro _ rfl
      refine Tops_step rfl (OpT_pickT rfl rfl rfl (congrArg (fun b => some (Value.bool b)) hg41) rfl) ?_
      refine Tops_step rfl (OpT_move rfl rfl rfl rfl) ?_
      obtain ⟨hg42, h⟩ := chk_e h
      refine Tops_yes rfl rfl (congrArg (fun b => some (Value.bool b)) hg42) (OpT_move rfl rfl rfl rfl) ?_
      rintro _ rfl
      refine Tops_yes rfl rfl (congrArg (fun b => some (Value.bool b)) hg42) (OpT_move rfl rfl rfl rfl) ?_
      rintro _ rfl
      refine Tops_yes rfl rfl (congrArg (fun b => some (Value.bool b)) hg42) (OpT_bin rfl rfl rfl rfl rfl (bin_and_u16 (a := mark2) (b := (32639 : UInt16)))) ?_
      rintro _ rfl
      refine Tops_yes rfl rfl (congrArg (fun b => some (Value.bool b)) hg42) (OpT_move rfl rfl rfl rfl) ?_
      rintro _ rfl
      refine Tops_yes rfl rfl (congrArg (fun b => some (Value.bool b)) hg42) (OpT_move rfl rfl rfl rfl) ?_
      rintro _ rfl
      refine Tops_yes rfl rfl (congrArg (fun b => some (Value.bool b)) hg42) (OpT_bin rfl rfl rfl rfl rfl (bin_and_u16 (a := flags) (b := (32639 : UInt16)))) ?_
      rintro _ rfl
      refine Tops_yes rfl rfl (congrArg (fun b => some (Value.bool b)) hg42) (OpT_bin rfl rfl rfl rfl rfl (bin_eql_u16 (a := mark2 &&& (32639 : UInt16)) (b := flags &&& (32639 : UInt16)))) ?_
      rintro _ rfl
      refine Tops_step rfl (OpT_pickT rfl rfl rfl (congrArg (fun b => some (Value.bool b)) hg42) rfl) ?_
      refine Tops_step rfl (OpT_move rfl rfl rfl rfl) ?_
      obtain ⟨hg43, h⟩ := chk_e h
      refine Tops_yes rfl rfl (congrArg (fun b => some (Value.bool b)) hg43) (OpT_move rfl rfl rfl rfl) ?_
      rintro _ rfl
      refine Tops_yes rfl rfl (congrArg (fun b => some (Value.bool b)) hg43) (OpT_move rfl rfl rfl rfl) ?_
      rintro _ rfl
      obtain ⟨mark7, hx40, h⟩ := ob_e h
      refine Tops_yes rfl rfl (congrArg (fun b => some (Value.bool b)) hg43) (OpT_call (w_desc_Mark hx40) [] [] rfl rfl rfl rfl rfl callee9 rfl rfl rfl rfl) ?_
      rintro _ ⟨_, _, _, ⟨rfl, rfl, rfl⟩, rfl⟩
      refine Tops_yes rfl rfl (congrArg (fun b => some (Value.bool b)) hg43) (OpT_move rfl rfl rfl rfl) ?_
      rintro _ rfl
      refine Tops_yes rfl rfl (congrArg (fun b => some (Value.bool b)) hg43) (OpT_bin rfl rfl rfl rfl rfl (bin_eql_u16 (a := mark7) (b := mark2))) ?_
      rintro _ rfl
      refine Tops_step rfl (OpT_pickT rfl rfl rfl (congrArg (fun b => some (Value.bool b)) hg43) rfl) ?_
      refine Tops_step rfl (OpT_move rfl rfl rfl rfl) ?_
      obtain ⟨hg44, h⟩ := chk_e h
      refine Tops_yes rfl rfl (congrArg (fun b => some (Value.bool b)) hg44) (OpT_move rfl rfl rfl rfl) ?_
      rintro _ rfl
      refine Tops_yes rfl rfl (congrArg (fun b => some (Value.bool b)) hg44) (OpT_move rfl rfl rfl rfl) ?_
      rintro _ rfl
      obtain ⟨mark8, hx41, h⟩ := ob_e h
      refine Tops_yes rfl rfl (congrArg (fun b => some (Value.bool b)) hg44) (OpT_call (w_desc_Mark hx41) [] [] rfl rfl rfl rfl rfl callee9 rfl rfl rfl rfl) ?_
      rintro _ ⟨_, _, _, ⟨rfl, rfl, rfl⟩, rfl⟩
      refine Tops_yes rfl rfl (congrArg (fun b => some (Value.bool b)) hg44) (OpT_move rfl rfl rfl rfl) ?_
      rintro _ rfl
      refine Tops_yes rfl rfl (congrArg (fun b => some (Value.bool b)) hg44) (OpT_bin rfl rfl rfl rfl rfl (bin_eql_u16 (a := mark8) (b := mark1))) ?_
      rintro _ rfl
      refine Tops_step rfl (OpT_pickT rfl rfl rfl (congrArg (fun b => some (Value.bool b)) hg44) rfl) ?_
      refine Tops_step rfl (OpT_assign rfl rfl rfl rfl) ?_
      refine Tops_nil ?_
      refine Tk_wk (fr' := [(4, some (vB (mark8 == mark1)))]) (own' := []) (shr' := []) [] [] rfl ⟨fun _ h => h, trivial⟩ rfl rfl ?_
      obtain ⟨hg45, h⟩ := chk_e h
      exact Tk_retV rfl (resA (vs := [.bool true]) rfl ⟨(congrArg (fun b => some (Value.bool b)) hg45), trivial⟩) [] [] rfl rfl rfl ⟨rfl, rfl, rfl⟩
    · replace h := br_f hg32 h
      refine Tops_no rfl rfl (congrArg (fun b => some (Value.bool b)) hg32) rfl rfl ?_
      refine Tops_no rfl rfl (congrArg (fun b => some (Value.bool b)) hg32) rfl rfl ?_
      refine Tops_no rfl rfl (congrArg (fun b => some (Value.bool b)) hg32) rfl rfl ?_
      refine Tops_no rfl rfl (congrArg (fun b => some (Value.bool b)) hg32) rfl rfl ?_
      refine Tops_yes rfl rfl rfl (OpT_pickF rfl rfl rfl (congrArg (fun b => some (Value.bool b)) hg32) rfl) ?_
      rintro _ rfl
      refine Tops_step rfl (OpT_pickF rfl rfl rfl rfl rfl) ?_
      refine Tops_nil ?_
      refine Tk_wk (fr' := [(0, some (vU16 flags)), (1, some (vB wrap)), (5, some (vU16 mark1)), (6, some (vU16 mark2)), (7, some (vU16 (32639 : UInt16))), (46, some (vB false))]) (own' := []) (shr' := []) [] [] rfl ⟨fun _ h => h, fun _ h => h, fun _ h => h, fun _ h => h, fun _ h => h, fun _ h => h, trivial⟩ rfl rfl ?_
      refine Tk_condF rfl ?_
      refine Tk_skip ?_
      refine Tk_seq ?_
      refine Tk_region ?_
      refine Tops_step rfl (OpT_move rfl rfl rfl rfl) ?_
      refine Tops_step rfl (OpT_move rfl rfl rfl rfl) ?_
      obtain ⟨avail15, hx42, h⟩ := ob_e h
      refine Tops_exP rfl (OpT_call (w_desc_Avail hx42) [] [] rfl rfl rfl rfl rfl callee10 rfl rfl rfl rfl) ?_
      rintro _ ⟨_, _, _, ⟨rfl, rfl, rfl⟩, rfl⟩
      refine Tops_step rfl (OpT_move rfl rfl rfl rfl) ?_
      obtain ⟨hg46, h⟩ := chk_e h
      refine Tops_yes rfl rfl (congrArg (fun b => some (Value.bool b)) hg46) (OpT_move rfl rfl rfl rfl) ?_
      rintro _ rfl
      refine Tops_yes rfl rfl (congrArg (fun b => some (Value.bool b)) hg46) (OpT_move rfl rfl rfl rfl) ?_
      rintro _ rfl
      obtain ⟨used19, hx43, h⟩ := ob_e h
      refine Tops_yes rfl rfl (congrArg (fun b => some (Value.bool b)) hg46) (OpT_call (w_desc_Used hx43) [] [] rfl rfl rfl rfl rfl callee11 rfl rfl rfl rfl) ?_
      rintro _ ⟨_, _, _, ⟨rfl, rfl, rfl⟩, rfl⟩
      refine Tops_yes rfl rfl (congrArg (fun b => some (Value.bool b)) hg46) (OpT_not rfl rfl rfl rfl) ?_
      rintro _ rfl
      refine Tops_step rfl (OpT_pickT rfl rfl rfl (congrArg (fun b => some (Value.bool b)) hg46) rfl) ?_
      refine Tops_step rfl (OpT_move rfl rfl rfl rfl) ?_
      obtain ⟨hg47, h⟩ := chk_e h
      refine Tops_yes rfl rfl (congrArg (fun b => some (Value.bool b)) hg47) (OpT_move rfl rfl rfl rfl) ?_
      rintro _ rfl
      refine Tops_yes rfl rfl (congrArg (fun b => some (Value.bool b)) hg47) (OpT_move rfl rfl rfl rfl) ?_
      rintro _ rfl
      refine Tops_yes rfl rfl (congrArg (fun b => some (Value.bool b)) hg47) (OpT_not rfl rfl rfl rfl) ?_
      rintro _ rfl
      obtain ⟨avail16, hx44, h⟩ := ob_e h
      refine Tops_yes rfl rfl (congrArg (fun b => some (Value.bool b)) hg47) (OpT_call (w_desc_Avail hx44) [] [] rfl rfl rfl rfl rfl callee10 rfl rfl rfl rfl) ?_
      rintro _ ⟨_, _, _, ⟨rfl, rfl, rfl⟩, rfl⟩
      refine Tops_yes rfl rfl (congrArg (fun b => some (Value.bool b)) hg47) (OpT_not rfl rfl rfl rfl) ?_
      rintro _ rfl
      refine Tops_step rfl (OpT_pickT rfl rfl rfl (congrArg (fun b => some (Value.bool b)) hg47) rfl) ?_
      refine Tops_step rfl (OpT_move rfl rfl rfl rfl) ?_
      obtain ⟨hg48, h⟩ := chk_e h
      refine Tops_yes rfl rfl (congrArg (fun b => some (Value.bool b)) hg48) (OpT_move rfl rfl rfl rfl) ?_
      rintro _ rfl
      refine Tops_yes rfl rfl (congrArg (fun b => some (Value.bool b)) hg48) (OpT_move rfl rfl rfl rfl) ?_
      rintro _ rfl
      refine Tops_yes rfl rfl (congrArg (fun b => some (Value.bool b)) hg48) (OpT_not rfl rfl rfl rfl) ?_
      rintro _ rfl
      obtain ⟨used20, hx45, h⟩ := ob_e h
      refine Tops_yes rfl rfl (congrArg (fun b => some (Value.bool b)) hg48) (OpT_call (w_desc_Used hx45) [] [] rfl rfl rfl rfl rfl callee11 rfl rfl rfl rfl) ?_
      rintro _ ⟨_, _, _, ⟨rfl, rfl, rfl⟩, rfl⟩
      refine Tops_yes rfl rfl (congrArg (fun b => some (Value.bool b)) hg48) (OpT_not rfl rfl rfl rfl) ?_
      rintro _ rfl
      refine Tops_step rfl (OpT_pickT rfl rfl rfl (congrArg (fun b => some (Value.bool b)) hg48) rfl) ?_
      refine Tops_step rfl (OpT_move rfl rfl rfl rfl) ?_
      obtain ⟨hg49, h⟩ := chk_e h
      refine Tops_yes rfl rfl (congrArg (fun b => some (Value.bool b)) hg49) (OpT_move rfl rfl rfl rfl) ?_
      rintro _ rfl
      refine Tops_yes rfl rfl (congrArg (fun b => some (Value.bool b)) hg49) (OpT_move rfl rfl rfl rfl) ?_
      rintro _ rfl
      obtain ⟨used21, hx46, h⟩ := ob_e h
      refine Tops_yes rfl rfl (congrArg (fun b => some (Value.bool b)) hg49) (OpT_call (w_desc_Used hx46) [] [] rfl rfl rfl rfl rfl callee11 rfl rfl rfl rfl) ?_
      rintro _ ⟨_, _, _, ⟨rfl, rfl, rfl⟩, rfl⟩
      refine Tops_step rfl (OpT_pickT rfl rfl rfl (congrArg (fun b => some (Value.bool b)) hg49) rfl) ?_
      refine Tops_step rfl (OpT_move rfl rfl rfl rfl) ?_
      obtain ⟨hg50, h⟩ := chk_e h
      refine Tops_yes rfl rfl (congrArg (fun b => some (Value.bool b)) hg50) (OpT_move rfl rfl rfl rfl) ?_
      rintro _ rfl
      refine Tops_yes rfl rfl (congrArg (fun b => some (Value.bool b)) hg50) (OpT_move rfl rfl rfl rfl) ?_
      rintro _ rfl
      obtain ⟨avail17, hx47, h⟩ := ob_e h
      refine Tops_yes rfl rfl (congrArg (fun b => some (Value.bool b)) hg50) (OpT_call (w_desc_Avail hx47) [] [] rfl rfl rfl rfl rfl callee10 rfl rfl rfl rfl) ?_
      rintro _ ⟨_, _, _, ⟨rfl, rfl, rfl⟩, rfl⟩
      refine Tops_yes rfl rfl (congrArg (fun b => some (Value.bool b)) hg50) (OpT_not rfl rfl rfl rfl) ?_
      rintro _ rfl
      refine Tops_step rfl (OpT_pickT rfl rfl rfl (congrArg (fun b => some (Value.bool b)) hg50) rfl) ?_
      refine Tops_step rfl (OpT_move rfl rfl rfl rfl) ?_
      obtain ⟨hg51, h⟩ := chk_e h
      refine Tops_yes rfl rfl (congrArg (fun b => some (Value.bool b)) hg51) (OpT_move rfl rfl rfl rfl) ?_
      rintro _ rfl
      refine Tops_yes rfl rfl (congrArg (fun b => some (Value.bool b)) hg51) (OpT_move rfl rfl rfl rfl) ?_
      rintro _ rfl
      refine Tops_yes rfl rfl (congrArg (fun b => some (Value.bool b)) hg51) (OpT_not rfl rfl rfl rfl) ?_
      rintro _ rfl
      obtain ⟨avail18, hx48, h⟩ := ob_e h
      refine Tops_yes rfl rfl (congrArg (fun b => some (Value.bool b)) hg51) (OpT_call (w_desc_Avail hx48) [] [] rfl rfl rfl rfl rfl callee10 rfl rfl rfl rfl) ?_
      rintro _ ⟨_, _, _, ⟨rfl, rfl, rfl⟩, rfl⟩
      refine Tops_yes rfl rfl (congrArg (fun b => some (Value.bool b)) hg51) (OpT_not rfl rfl rfl rfl) ?_
      rintro _ rfl
      refine Tops_step rfl (OpT_pickT rfl rfl rfl (congrArg (fun b => some (Value.bool b)) hg51) rfl) ?_
      refine Tops_step rfl (OpT_move rfl rfl rfl rfl) ?_
      obtain ⟨hg52, h⟩ := chk_e h
      refine Tops_yes rfl rfl (congrArg (fun b => some (Value.bool b)) hg52) (OpT_move rfl rfl rfl rfl) ?_
      rintro _ rfl
      refine Tops_yes rfl rfl (congrArg (fun b => some (Value.bool b)) hg52) (OpT_move rfl rfl rfl rfl) ?_
      rintro _ rfl
      refine Tops_yes rfl rfl (congrArg (fun b => some (Value.bool b)) hg52) (OpT_not rfl rfl rfl rfl) ?_
      rintro _ rfl
      obtain ⟨used22, hx49, h⟩ := ob_e h
      refine Tops_yes rfl rfl (congrArg (fun b => some (Value.bool b)) hg52) (OpT_call (w_desc_Used hx49) [] [] rfl rfl rfl rfl rfl callee11 rfl rfl rfl rfl) ?_
      rintro _ ⟨_, _, _, ⟨rfl, rfl, rfl⟩, rfl⟩
      refine Tops_yes rfl rfl (congrArg (fun b => some (Value.bool b)) hg52) (OpT_not rfl rfl rfl rfl) ?_
      rintro _ rfl
      refine Tops_step rfl (OpT_pickT rfl rfl rfl (congrArg (fun b => some (Value.bool b)) hg52) rfl) ?_
      refine Tops_step rfl (OpT_move rfl rfl rfl rfl) ?_
      obtain ⟨hg53, h⟩ := chk_e h
      refine Tops_yes rfl rfl (congrArg (fun b => some (Value.bool b)) hg53) (OpT_move rfl rfl rfl rfl) ?_
      rintro _ rfl
      refine Tops_yes rfl rfl (congrArg (fun b => some (Value.bool b)) hg53) (OpT_move rfl rfl rfl rfl) ?_
      rintro _ rfl
      refine Tops_yes rfl rfl (congrArg (fun b => some (Value.bool b)) hg53) (OpT_bin rfl rfl rfl rfl rfl (bin_and_u16 (a := mark1) (b := (32639 : UInt16)))) ?_
      rintro _ rfl
      refine Tops_yes rfl rfl (congrArg (fun b => some (Value.bool b)) hg53) (OpT_move rfl rfl rfl rfl) ?_
      rintro _ rfl
      refine Tops_yes rfl rfl (congrArg (fun b => some (Value.bool b)) hg53) (OpT_move rfl rfl rfl rfl) ?_
      rintro _ rfl
      refine Tops_yes rfl rfl (congrArg (fun b => some (Value.bool b)) hg53) (OpT_bin rfl rfl rfl rfl rfl (bin_and_u16 (a := flags) (b := (32639 : UInt16)))) ?_
      rintro _ rfl
      refine Tops_yes rfl rfl (congrArg (fun b => some (Value.bool b)) hg53) (OpT_bin rfl rfl rfl rfl rfl (bin_eql_u16 (a := mark1 &&& (32639 : UInt16)) (b := flags &&& (32639 : UInt16)))) ?_
      rintro _ rfl
      refine Tops_step rfl (OpT_pickT rfl rfl rfl (congrArg (fun b => some (Value.bool b)) hg53) rfl) ?_
      refine Tops_step rfl (OpT_move rfl rfl rfl rfl) ?_
      obtain ⟨hg54, h⟩ := chk_e h
      refine Tops_yes rfl rfl (congrArg (fun b => some (Value.bool b)) hg54) (OpT_move rfl rfl rfl rfl) ?_
      rintro _ rfl
      refine Tops_yes rfl rfl (congrArg (fun b => some (Value.bool b)) hg54) (OpT_move rfl rfl rfl rfl) ?_
      rintro _ rfl
      refine Tops_yes rfl rfl (congrArg (fun b => some (Value.bool b)) hg54) (OpT_bin rfl rfl rfl rfl rfl (bin_and_u16 (a := mark2) (b := (32639 : UInt16)))) ?_
      rintro _ rfl
      refine Tops_yes rfl rfl (congrArg (fun b => some (Value.bool b)) hg54) (OpT_move rfl rfl rfl rfl) ?_
      rintro _ rfl
      refine Tops_yes rfl rfl (congrArg (fun b => some (Value.bool b)) hg54) (OpT_move rfl rfl rfl rfl) ?_
      rintro _ rfl
      refine Tops_yes rfl rfl (congrArg (fun b => some (Value.bool b)) hg54) (OpT_bin rfl rfl rfl rfl rfl (bin_and_u16 (a := flags) (b := (32639 : UInt16)))) ?_
      rintro _ rfl
      refine Tops_yes rfl rfl (congrArg (fun b => some (Value.bool b)) hg54) (OpT_bin rfl rfl rfl rfl rfl (bin_eql_u16 (a := mark2 &&& (32639 : UInt16)) (b := flags &&& (32639 : UInt16)))) ?_
      rintro _ rfl
      refine Tops_step rfl (OpT_pickT rfl rfl rfl (congrArg (fun b => some (Value.bool b)) hg54) rfl) ?_
      refine Tops_step rfl (OpT_move rfl rfl rfl rfl) ?_
      obtain ⟨hg55, h⟩ := chk_e h
      refine Tops_yes rfl rfl (congrArg (fun b => some (Value.bool b)) hg55) (OpT_move rfl rfl rfl rfl) ?_
      rintro _ rfl
      refine Tops_yes rfl rfl (congrArg (fun b => some (Value.bool b)) hg55) (OpT_move rfl rfl rfl rfl) ?_
      rintro _ rfl
      obtain ⟨mark9, hx50, h⟩ := ob_e h
      refine Tops_yes rfl rfl (congrArg (fun b => some (Value.bool b)) hg55) (OpT_call (w_desc_Mark hx50) [] [] rfl rfl rfl rfl rfl callee9 rfl rfl rfl rfl) ?_
      rintro _ ⟨_, _, _, ⟨rfl, rfl, rfl⟩, rfl⟩
      refine Tops_yes rfl rfl (congrArg (fun b => some (Value.bool b)) hg55) (OpT_move rfl rfl rfl rfl) ?_
      rintro _ rfl
      refine Tops_yes rfl rfl (congrArg (fun b => some (Value.bool b)) hg55) (OpT_bin rfl rfl rfl rfl rfl (bin_eql_u16 (a := mark9) (b := mark2))) ?_
      rintro _ rfl
      refine Tops_step rfl (OpT_pickT rfl rfl rfl (congrArg (fun b => some (Value.bool b)) hg55) rfl) ?_
      refine Tops_step rfl (OpT_move rfl rfl rfl rfl) ?_
      obtain ⟨hg56, h⟩ := chk_e h
      refine Tops_yes rfl rfl (congrArg (fun b => some (Value.bool b)) hg56) (OpT_move rfl rfl rfl rfl) ?_
      rintro _ rfl
      refine Tops_yes rfl rfl (congrArg (fun b => some (Value.bool b)) hg56) (OpT_move rfl rfl rfl rfl) ?_
      rintro _ rfl
      obtain ⟨mark10, hx51, h⟩ := ob_e h
      refine Tops_yes rfl rfl (congrArg (fun b => some (Value.bool b)) hg56) (OpT_call (w_desc_Mark hx51) [] [] rfl rfl rfl rfl rfl callee9 rfl rfl rfl rfl) ?_
      rintro _ ⟨_, _, _, ⟨rfl, rfl, rfl⟩, rfl⟩
      refine Tops_yes rfl rfl (congrArg (fun b => some (Value.bool b)) hg56) (OpT_move rfl rfl rfl rfl) ?_
      rintro _ rfl
      refine Tops_yes rfl rfl (congrArg (fun b => some (Value.bool b)) hg56) (OpT_bin rfl rfl rfl rfl rfl (bin_eql_u16 (a := mark10) (b := mark1))) ?_
      rintro _ rfl
      refine Tops_step rfl (OpT_pickT rfl rfl rfl (congrArg (fun b => some (Value.bool b)) hg56) rfl) ?_
      refine Tops_step rfl (OpT_assign rfl rfl rfl rfl) ?_
      refine Tops_nil ?_
      refine Tk_wk (fr' := [(4, some (vB (mark10 == mark1)))]) (own' := []) (shr' := []) [] [] rfl ⟨fun _ h => h, trivial⟩ rfl rfl ?_
      obtain ⟨hg57, h⟩ := chk_e h
      exact Tk_retV rfl (resA (vs := [.bool true]) rfl ⟨(congrArg (fun b => some (Value.bool b)) hg57), trivial⟩) [] [] rfl rfl rfl ⟨rfl, rfl, rfl⟩
end Go.Proofs.Ytamdpkddehhocaa
