/- The functions do what the plain words say: each is walked once. No statement of the seat is proved here; no condition. -/
import Derived.Test.YtkdekmjcfoahjaaWa3
namespace Go.Proofs.Ytkdekmjcfoahjaa

set_option maxRecDepth 100000 in
set_option maxHeartbeats 4000000 in
theorem w_ref_In05n0 {l : List Seg} {vl1 : Value} {r : Int} (h : ref_In05n0 l = some r) :
  Ctr Try.prog 27 #[.pointer none, vl1] [] [Fact.sl SegS vl1 l]
   (fun rv own shr => rv = vI r ∧ own = [] ∧ shr = []) := by
 unfold ref_In05n0 at h
 refine Ctr.mk (args := [.pointer none, vl1]) Try.func27 rfl rfl (fun R0 w0 B => ?_)
 refine Tk_seq ?_
 refine Tk_region ?_
 refine Tops_step rfl (OpT_assign rfl rfl rfl rfl) ?_
 refine Tops_nil ?_
 refine Tk_wkS (fr' := [(0, some (.pointer none)), (1, some (vl1))]) (own' := []) (shr' := [Fact.sl SegS vl1 l]) [0, 1] [] [0] rfl rfl rfl rfl ?_
 refine Tk_seq ?_
 refine Tk_seq ?_
 refine Tk_region ?_
 refine Tops_step rfl (OpT_move rfl rfl rfl rfl) ?_
 refine Tops_step rfl (OpT_ptrNil rfl rfl rfl (.inl rfl) rfl rfl ptrF58) ?_
 refine Tops_nil ?_
 refine Tk_wkS (fr' := [(0, some (.pointer none)), (1, some (vl1)), (8, some (vB true))]) (own' := []) (shr' := [Fact.sl SegS vl1 l]) [0, 1, 8] [] [0] rfl rfl rfl rfl ?_
 refine Tk_condT rfl ?_
 refine Tk_seq ?_
 refine Tk_region ?_
 refine Tops_step rfl (OpT_assign rfl rfl rfl rfl) ?_
 refine Tops_nil ?_
 refine Tk_wkS (fr' := [(4, some (vI (1 : Int)))]) (own' := []) (shr' := []) [4] [] [] rfl rfl rfl rfl ?_
 obtain rfl := Option.some.inj h
 exact Tk_retV rfl rfl (resA (vs := [vI (1 : Int)]) rfl ⟨rfl, trivial⟩) [] [] rfl rfl rfl ⟨rfl, rfl, rfl⟩

set_option maxRecDepth 100000 in
set_option maxHeartbeats 4000000 in
theorem w_ref_Mem_find02n0 {atp1 : UInt64} {np2 : UInt64} {r : (Int × Int)} (h : ref_Mem_find02n0 atp1 np2 = some r) :
  Ctr Try.prog 53 #[.pointer none, vU64 atp1, vU64 np2] [] []
   (fun rv own shr => rv = .tuple #[vI r.1, vI r.2] ∧ own = [] ∧ shr = []) := by
 unfold ref_Mem_find02n0 at h
 refine Ctr.mk (args := [.pointer none, vU64 atp1, vU64 np2]) Try.func53 rfl rfl (fun R0 w0 B => ?_)
 refine Tk_seq ?_
 refine Tk_region ?_
 refine Tops_step rfl (OpT_assign rfl rfl rfl rfl) ?_
 refine Tops_step rfl (OpT_assign rfl rfl rfl rfl) ?_
 refine Tops_nil ?_
 refine Tk_wkS (fr' := [(0, some (.pointer none)), (1, some (vU64 atp1)), (2, some (vU64 np2))]) (own' := []) (shr' := []) [0, 1, 2] [] [] rfl rfl rfl rfl ?_
 refine Tk_seq ?_
 refine Tk_seq ?_
 refine Tk_region ?_
 refine Tops_step rfl (OpT_assign rfl rfl rfl rfl) ?_
 refine Tops_nil ?_
 refine Tk_block ?_
 refine Tk_loopS (σ := Int) [0, 1, 2, 8] [] [] (fun s => ⟨[(0, some (.pointer none)), (1, some (vU64 atp1)), (2, some (vU64 np2)), (8, some (vI s))], [], []⟩) (fun nf s => ref_Mem_find02n0L1 nf s = some r) fuel (0 : Int) h rfl rfl rfl rfl rfl (fun s h => by cases h) ?_
 rintro nf i1 h
 replace h : ref_Mem_find02n0L1B (ref_Mem_find02n0L1 nf) i1 = some r := h
 unfold ref_Mem_find02n0L1B at h
 cases h

set_option maxRecDepth 100000 in
set_option maxHeartbeats 4000000 in
theorem w_ref_Mem_Write02n0 {atp1 : UInt64} {b : List UInt8} {vb1 : Value} {r : Int} (h : ref_Mem_Write02n0 atp1 b = some r) :
  Ctr Try.prog 48 #[.pointer none, vU64 atp1, vb1] [] [Fact.sl u8S vb1 b]
   (fun rv own shr => rv = vI r ∧ own = [] ∧ shr = []) := by
 unfold ref_Mem_Write02n0 at h
 refine Ctr.mk (args := [.pointer none, vU64 atp1, vb1]) Try.func48 rfl rfl (fun R0 w0 B => ?_)
 refine Tk_seq ?_
 refine Tk_region ?_
 refine Tops_step rfl (OpT_assign rfl rfl rfl rfl) ?_
 refine Tops_nil ?_
 refine Tk_wkS (fr' := [(0, some (.pointer none)), (1, some (vU64 atp1)), (2, some (vb1))]) (own' := []) (shr' := [Fact.sl u8S vb1 b]) [0, 1, 2] [] [0] rfl rfl rfl rfl ?_
 refine Tk_seq ?_
 refine Tk_seq ?_
 refine Tk_region ?_
 refine Tops_step rfl (OpT_move rfl rfl rfl rfl) ?_
 refine Tops_step rfl (OpT_lenS rfl rfl rfl rfl Try.underlying33 (i := 0) rfl) ?_
 refine Tops_step rfl (OpT_bin rfl rfl rfl rfl rfl (bin_eql_i (a := len b) (b := (0 : Int)))) ?_
 refine Tops_nil ?_
 refine Tk_wkS (fr' := [(0, some (.pointer none)), (1, some (vU64 atp1)), (2, some (vb1)), (11, some (vB ((len b) == (0 : Int))))]) (own' := []) (shr' := [Fact.sl u8S vb1 b]) [0, 1, 2, 11] [] [0] rfl rfl rfl rfl ?_
 rcases Bool.eq_false_or_eq_true ((len b) == (0 : Int)) with hg1 | hg1
 ·replace h := br_t hg1 h
  refine Tk_condT (congrArg (fun b => some (Value.bool b)) hg1) ?_
  refine Tk_seq ?_
  refine Tk_region ?_
  refine Tops_step rfl (OpT_assign rfl rfl rfl rfl) ?_
  refine Tops_nil ?_
  refine Tk_wkS (fr' := [(6, some (vI (0 : Int)))]) (own' := []) (shr' := []) [6] [] [] rfl rfl rfl rfl ?_
  obtain rfl := Option.some.inj h
  exact Tk_retV rfl rfl (resA (vs := [vI (0 : Int)]) rfl ⟨rfl, trivial⟩) [] [] rfl rfl rfl ⟨rfl, rfl, rfl⟩
 ·replace h := br_f hg1 h
  refine Tk_condF (congrArg (fun b => some (Value.bool b)) hg1) ?_
  refine Tk_skip ?_
  refine Tk_seq ?_
  refine Tk_region ?_
  refine Tops_step rfl (OpT_move rfl rfl rfl rfl) ?_
  refine Tops_step rfl (OpT_move rfl rfl rfl rfl) ?_
  refine Tops_step rfl (OpT_move rfl rfl rfl rfl) ?_
  refine Tops_step rfl (OpT_lenS rfl rfl rfl rfl Try.underlying33 (i := 0) rfl) ?_
  refine Tops_step rfl (OpT_cnv rfl rfl rfl rfl (cnv_i_u64 (n := len b) Try.underlying3 Try.underlying23)) ?_
  obtain ⟨find1, hx1, h⟩ := ob_e h
  refine Tops_exP rfl (OpT_call (w_ref_Mem_find02n0 hx1) [] [] rfl rfl rfl rfl rfl callee53 rfl rfl rfl rfl) ?_
  rintro _ ⟨_, _, _, ⟨rfl, rfl, rfl⟩, rfl⟩
  refine Tops_step rfl (OpT_move rfl rfl rfl rfl) ?_
  refine Tops_step rfl (OpT_extract rfl rfl rfl rfl rfl) ?_
  refine Tops_step rfl (OpT_extract rfl rfl rfl rfl rfl) ?_
  refine Tops_step rfl (OpT_assign rfl rfl rfl rfl) ?_
  refine Tops_step rfl (OpT_assign rfl rfl rfl rfl) ?_
  refine Tops_nil ?_
  refine Tk_wkS (fr' := [(0, some (.pointer none)), (2, some (vb1)), (7, some (vI find1.1)), (8, some (vI find1.2))]) (own' := []) (shr' := [Fact.sl u8S vb1 b]) [0, 2, 7, 8] [] [0] rfl rfl rfl rfl ?_
  refine Tk_seq ?_
  refine Tk_seq ?_
  refine Tk_region ?_
  refine Tops_step rfl (OpT_move rfl rfl rfl rfl) ?_
  refine Tops_step rfl (OpT_bin rfl rfl rfl rfl rfl (bin_lss_i (a := find1.1) (b := (0 : Int)))) ?_
  refine Tops_nil ?_
  refine Tk_wkS (fr' := [(0, some (.pointer none)), (2, some (vb1)), (7, some (vI find1.1)), (8, some (vI find1.2)), (22, some (vB (decide (find1.1 < (0 : Int)))))]) (own' := []) (shr' := [Fact.sl u8S vb1 b]) [0, 2, 7, 8, 22] [] [0] rfl rfl rfl rfl ?_
  obtain ⟨hg2, h⟩ := chk_e h
  refine Tk_condT (congrArg (fun b => some (Value.bool b)) hg2) ?_
  refine Tk_seq ?_
  refine Tk_region ?_
  refine Tops_step rfl (OpT_assign rfl rfl rfl rfl) ?_
  refine Tops_nil ?_
  refine Tk_wkS (fr' := [(6, some (vI (5 : Int)))]) (own' := []) (shr' := []) [6] [] [] rfl rfl rfl rfl ?_
  obtain rfl := Option.some.inj h
  exact Tk_retV rfl rfl (resA (vs := [vI (5 : Int)]) rfl ⟨rfl, trivial⟩) [] [] rfl rfl rfl ⟨rfl, rfl, rfl⟩

set_option maxRecDepth 100000 in
set_option maxHeartbeats 4000000 in
theorem w_ref_Scatter05n0 {l : List Seg} {b : List UInt8} {vl1 : Value} {vb1 : Value} {r : (Int × Int)} (h : ref_Scatter05n0 l b = some r) :
  Ctr Try.prog 32 #[.pointer none, vl1, vb1] [] [Fact.sl SegS vl1 l, Fact.sl u8S vb1 b]
   (fun rv own shr => rv = .tuple #[vI r.1, vI r.2] ∧ own = [] ∧ shr = []) := by
 unfold ref_Scatter05n0 at h
 refine Ctr.mk (args := [.pointer none, vl1, vb1]) Try.func32 rfl rfl (fun R0 w0 B => ?_)
 refine Tk_seq ?_
 refine Tk_region ?_
 refine Tops_step rfl (OpT_assign rfl rfl rfl rfl) ?_
 refine Tops_step rfl (OpT_assign rfl rfl rfl rfl) ?_
 refine Tops_nil ?_
 refine Tk_wkS (fr' := [(0, some (.pointer none)), (1, some (vl1)), (2, some (vb1))]) (own' := []) (shr' := [Fact.sl SegS vl1 l, Fact.sl u8S vb1 b]) [0, 1, 2] [] [0, 1] rfl rfl rfl rfl ?_
 refine Tk_seq ?_
 refine Tk_region ?_
 refine Tops_step rfl (OpT_move rfl rfl rfl rfl) ?_
 refine Tops_step rfl (OpT_move rfl rfl rfl rfl) ?_
 obtain ⟨in1, hx1, h⟩ := ob_e h
 refine Tops_exP rfl (OpT_call (w_ref_In05n0 hx1) [] [0] rfl rfl rfl rfl rfl callee27 rfl rfl rfl rfl) ?_
 rintro _ ⟨_, _, _, ⟨rfl, rfl, rfl⟩, rfl⟩
 refine Tops_step rfl (OpT_assign rfl rfl rfl rfl) ?_
 refine Tops_nil ?_
 refine Tk_wkS (fr' := [(0, some (.pointer none)), (1, some (vl1)), (2, some (vb1)), (8, some (vI in1))]) (own' := []) (shr' := [Fact.sl SegS vl1 l, Fact.sl u8S vb1 b]) [0, 1, 2, 8] [] [0, 1] rfl rfl rfl rfl ?_
 refine Tk_seq ?_
 refine Tk_seq ?_
 refine Tk_region ?_
 refine Tops_step rfl (OpT_move rfl rfl rfl rfl) ?_
 refine Tops_step rfl (OpT_bin rfl rfl rfl rfl rfl (bin_neq_i (a := in1) (b := (0 : Int)))) ?_
 refine Tops_nil ?_
 refine Tk_wkS (fr' := [(0, some (.pointer none)), (1, some (vl1)), (2, some (vb1)), (8, some (vI in1)), (16, some (vB (in1 != (0 : Int))))]) (own' := []) (shr' := [Fact.sl SegS vl1 l, Fact.sl u8S vb1 b]) [0, 1, 2, 8, 16] [] [0, 1] rfl rfl rfl rfl ?_
 rcases Bool.eq_false_or_eq_true (in1 != (0 : Int)) with hg1 | hg1
 ·replace h := br_t hg1 h
  refine Tk_condT (congrArg (fun b => some (Value.bool b)) hg1) ?_
  refine Tk_seq ?_
  refine Tk_region ?_
  refine Tops_step rfl (OpT_move rfl rfl rfl rfl) ?_
  refine Tops_step rfl (OpT_assign rfl rfl rfl rfl) ?_
  refine Tops_step rfl (OpT_assign rfl rfl rfl rfl) ?_
  refine Tops_nil ?_
  refine Tk_wkS (fr' := [(6, some (vI (0 : Int))), (7, some (vI in1))]) (own' := []) (shr' := []) [6, 7] [] [] rfl rfl rfl rfl ?_
  obtain rfl := Option.some.inj h
  exact Tk_retV rfl rfl (resA (vs := [vI (0 : Int), vI in1]) rfl ⟨rfl, rfl, trivial⟩) [] [] rfl rfl rfl ⟨rfl, rfl, rfl⟩
 ·replace h := br_f hg1 h
  refine Tk_condF (congrArg (fun b => some (Value.bool b)) hg1) ?_
  refine Tk_skip ?_
  refine Tk_seq ?_
  refine Tk_region ?_
  refine Tops_step rfl (OpT_assign rfl rfl rfl rfl) ?_
  refine Tops_nil ?_
  refine Tk_wkS (fr' := [(0, some (.pointer none)), (1, some (vl1)), (2, some (vb1)), (9, some (vI (0 : Int)))]) (own' := []) (shr' := [Fact.sl SegS vl1 l, Fact.sl u8S vb1 b]) [0, 1, 2, 9] [] [0, 1] rfl rfl rfl rfl ?_
  refine Tk_seq ?_
  refine Tk_seq ?_
  refine Tk_region ?_
  refine Tops_step rfl (OpT_assign rfl rfl rfl rfl) ?_
  refine Tops_nil ?_
  refine Tk_block ?_
  refine Tk_loopS (σ := Int × Int) [0, 1, 2, 9, 10] [] [0, 1] (fun s => ⟨[(0, some (.pointer none)), (1, some (vl1)), (2, some (vb1)), (9, some (vI s.1)), (10, some (vI s.2))], [], [Fact.sl SegS vl1 l, Fact.sl u8S vb1 b]⟩) (fun nf s => ref_Scatter05n0L1 l b nf s.1 s.2 = some r) fuel ((0 : Int), (0 : Int)) h rfl rfl rfl rfl rfl (fun s h => by cases h) ?_
  rintro nf ⟨n1, i1⟩ h
  replace h : ref_Scatter05n0L1B l b (ref_Scatter05n0L1 l b nf) n1 i1 = some r := h
  unfold ref_Scatter05n0L1B at h
  refine Tk_seq ?_
  refine Tk_seq ?_
  refine Tk_region ?_
  refine Tops_step rfl (OpT_move rfl rfl rfl rfl) ?_
  refine Tops_step rfl (OpT_move rfl rfl rfl rfl) ?_
  refine Tops_step rfl (OpT_lenS rfl rfl rfl rfl Try.underlying22 (i := 0) rfl) ?_
  refine Tops_step rfl (OpT_bin rfl rfl rfl rfl rfl (bin_lss_i (a := i1) (b := len l))) ?_
  refine Tops_nil ?_
  refine Tk_wkS (fr' := [(0, some (.pointer none)), (1, some (vl1)), (2, some (vb1)), (9, some (vI n1)), (10, some (vI i1)), (21, some (vB (decide (i1 < (len l)))))]) (own' := []) (shr' := [Fact.sl SegS vl1 l, Fact.sl u8S vb1 b]) [0, 1, 2, 9, 10, 21] [] [0, 1] rfl rfl rfl rfl ?_
  rcases Bool.eq_false_or_eq_true (decide (i1 < (len l))) with hg2 | hg2
  ·replace h := br_t hg2 h
   refine Tk_condT (congrArg (fun b => some (Value.bool b)) hg2) ?_
   refine Tk_skip ?_
   refine Tk_seq ?_
   refine Tk_join (α := Int) (fun s => ⟨[(0, some (.pointer none)), (1, some (vl1)), (2, some (vb1)), (9, some (vI s)), (10, some (vI i1))], [], [Fact.sl SegS vl1 l, Fact.sl u8S vb1 b]⟩) (fun s => ref_Scatter05n0J2 i1 (ref_Scatter05n0L1 l b nf) s = some r) ?_ ?_
   ·rintro n2 h
    replace h : ref_Scatter05n0J2 i1 (ref_Scatter05n0L1 l b nf) n2 = some r := h
    unfold ref_Scatter05n0J2 at h
    refine Tk_region ?_
    refine Tops_step rfl (OpT_move rfl rfl rfl rfl) ?_
    refine Tops_step rfl (OpT_bin rfl rfl rfl rfl rfl (bin_add_i (a := i1) (b := (1 : Int)))) ?_
    refine Tops_step rfl (OpT_assign rfl rfl rfl rfl) ?_
    refine Tops_nil ?_
    refine Tk_wkS (fr' := [(0, some (.pointer none)), (1, some (vl1)), (2, some (vb1)), (9, some (vI n2)), (10, some (vI (wi (i1 + (1 : Int)))))]) (own' := []) (shr' := [Fact.sl SegS vl1 l, Fact.sl u8S vb1 b]) [0, 1, 2, 9, 10] [] [0, 1] rfl rfl rfl rfl ?_
    exact Tk_backS (n2, wi (i1 + (1 : Int))) h [0, 1, 2, 9, 10] [] [0, 1] rfl rfl rfl rfl rfl
   ·intro HJ1
    refine Tk_block ?_
    refine Tk_seq ?_
    refine Tk_region ?_
    refine Tops_step rfl (OpT_move rfl rfl rfl rfl) ?_
    refine Tops_step rfl (OpT_move rfl rfl rfl rfl) ?_
    obtain ⟨s1, hx2, h⟩ := ob_e h
    refine Tops_ex rfl (OpT_idxS rfl rfl rfl rfl rfl slF22 (i := 0) rfl hx2) fun p1 => ?_
    refine Tops_ex rfl (OpT_fieldP (S' := bS) (y := s1.Write) rfl rfl rfl rfl fldF47x2 (i := 2) rfl (by intro h cs hr; subst hr; rfl)) fun p2 => ?_
    refine Tops_step rfl (OpT_loadP rfl rfl rfl rfl tyF4 (i := 3) rfl rfl) ?_
    refine Tops_nil ?_
    refine Tk_wkS (fr' := [(0, some (.pointer none)), (1, some (vl1)), (2, some (vb1)), (9, some (vI n1)), (10, some (vI i1)), (28, some (vB s1.Write))]) (own' := []) (shr' := [Fact.sl SegS vl1 l, Fact.sl u8S vb1 b]) [0, 1, 2, 9, 10, 28] [] [0, 1] rfl rfl rfl rfl ?_
    refine Tk_join (α := Int) (fun s => ⟨[(0, some (.pointer none)), (1, some (vl1)), (2, some (vb1)), (9, some (vI s)), (10, some (vI i1))], [], [Fact.sl SegS vl1 l, Fact.sl u8S vb1 b]⟩) (fun s => ref_Scatter05n0J3 i1 (ref_Scatter05n0L1 l b nf) s = some r) ?_ ?_
    ·rintro n3 h
     replace h : ref_Scatter05n0J3 i1 (ref_Scatter05n0L1 l b nf) n3 = some r := h
     unfold ref_Scatter05n0J3 at h
     refine Tk_blk ?_
     exact Tk_jmpS (HJ1 n3 h) [0, 1, 2, 9, 10] [] [0, 1] rfl rfl rfl rfl
    ·intro HJ2
     rcases Bool.eq_false_or_eq_true (s1.Write) with hg3 | hg3
     ·replace h := br_t hg3 h
      refine Tk_condT (congrArg (fun b => some (Value.bool b)) hg3) ?_
      refine Tk_seq ?_
      refine Tk_region ?_
      refine Tops_step rfl (OpT_move rfl rfl rfl rfl) ?_
      refine Tops_step rfl (OpT_lenS rfl rfl rfl rfl Try.underlying33 (i := 1) rfl) ?_
      refine Tops_step rfl (OpT_move rfl rfl rfl rfl) ?_
      refine Tops_step rfl (OpT_bin rfl rfl rfl rfl rfl (bin_sub_i (a := len b) (b := n1))) ?_
      refine Tops_step rfl (OpT_move rfl rfl rfl rfl) ?_
      refine Tops_step rfl (OpT_move rfl rfl rfl rfl) ?_
      obtain ⟨s2, hx3, h⟩ := ob_e h
      refine Tops_ex rfl (OpT_idxS rfl rfl rfl rfl rfl slF22 (i := 0) rfl hx3) fun p3 => ?_
      refine Tops_ex rfl (OpT_fieldP (S' := u32S) (y := s2.Len) rfl rfl rfl rfl fldF47x1 (i := 2) rfl (by intro h cs hr; subst hr; rfl)) fun p4 => ?_
      refine Tops_step rfl (OpT_loadP rfl rfl rfl rfl tyF45 (i := 3) rfl rfl) ?_
      refine Tops_step rfl (OpT_cnv rfl rfl rfl rfl (cnv_u32_i (n := s2.Len) Try.underlying45 Try.underlying3)) ?_
      refine Tops_step rfl (OpT_min_i (u := wi ((len b) - n1)) (v := i32 s2.Len) rfl rfl rfl rfl rfl) ?_
      refine Tops_step rfl (OpT_assign rfl rfl rfl rfl) ?_
      refine Tops_nil ?_
      refine Tk_wkS (fr' := [(0, some (.pointer none)), (1, some (vl1)), (2, some (vb1)), (9, some (vI n1)), (10, some (vI i1)), (11, some (vI (mini (wi ((len b) - n1)) (i32 s2.Len))))]) (own' := []) (shr' := [Fact.sl SegS vl1 l, Fact.sl u8S vb1 b]) [0, 1, 2, 9, 10, 11] [] [0, 1] rfl rfl rfl rfl ?_
      refine Tk_seq ?_
      refine Tk_drawT (by kernel_rfl) ?_
      refine TA_tb [0, 0, 0, 6, 14, 30, 0, 0, 0, 0, 768, 1984, 4095] (by kernel_rfl) fun htb => ?_
      obtain ⟨s3, hx4, h⟩ := ob_e h
      obtain ⟨hc1, h⟩ := chk_e h
      refine TA_seg (lo := 0) (hi := 12) htb rfl rfl (by kernel_rfl) (fun c L a w => ∃ (p5 : Value), ∃ (p6 : Value), ∃ (v1 : Value), Sat c ⟨[(0, some (.pointer none)), (1, some (vl1)), (2, some (vb1)), (9, some (vI n1)), (10, some (vI i1)), (11, some (vI (mini (wi ((len b) - n1)) (i32 s2.Len)))), (40, bif L 0 then some (.pointer none) else none), (41, bif L 1 then some (vl1) else none), (42, bif L 2 then some (vI i1) else none), (43, bif L 3 then some (p5) else none), (44, bif L 4 then some (p6) else none), (45, bif L 5 then some (vU64 s3.At) else none), (46, bif L 6 then some (vb1) else none), (47, bif L 7 then some (vI n1) else none), (48, bif L 8 then some (vI n1) else none), (49, bif L 9 then some (vI (mini (wi ((len b) - n1)) (i32 s2.Len))) else none), (50, bif L 10 then some (vI (wi (n1 + (mini (wi ((len b) - n1)) (i32 s2.Len))))) else none), (51, bif L 11 then some (v1) else none)], [], [Fact.sl SegS vl1 l, Fact.sl u8S vb1 b, (bif L 3 then Fact.pt SegS p5 s3 else Fact.tt), (bif L 4 then Fact.pt u64S p6 s3.At else Fact.tt), (bif L 11 then Fact.sl u8S v1 (sub b n1 (wi (n1 + (mini (wi ((len b) - n1)) (i32 s2.Len))))) else Fact.tt)]⟩ a w) [([], []), ([], [3, 4, 5]), ([], [3, 4, 5]), ([1, 2], [4, 5]), ([1, 2, 3], [5]), ([1, 2, 3, 4], []), ([], [11]), ([], [11]), ([], [10, 11]), ([], [10, 11]), ([8, 9], [11]), ([6, 7, 8, 9, 10], [])] rfl (by kernel_rfl) ?_ (steps_cons ?_ (steps_cons ?_ (steps_cons ?_ (steps_cons ?_ (steps_cons ?_ (steps_cons ?_ (steps_cons ?_ (steps_cons ?_ (steps_cons ?_ (steps_cons ?_ (steps_cons ?_ (steps_cons ?_ (steps_nil))))))))))))) ?_
      ·intro a w hs
       exact ⟨undef, undef, undef, hs.startF [40, 41, 42, 43, 44, 45, 46, 47, 48, 49, 50, 51] [] [0, 1, 2, 3, 4] rfl rfl rfl rfl⟩
      ·intro L a w hv K Q hK
       obtain ⟨p5, p6, v1, hs⟩ := hv
       refine wpOp_go rfl rfl hs (OpT_move rfl rfl rfl rfl) ?_
       rintro _ rfl a' w' hs'
       exact hK a' w' ⟨p5, p6, v1, hs'.putF (i := 6) rfl [] [0, 1, 2, 3, 4] rfl rfl rfl rfl⟩
      ·intro L a w hv K Q hK
       obtain ⟨p5, p6, v1, hs⟩ := hv
       refine wpOp_go rfl rfl hs (OpT_move rfl rfl rfl rfl) ?_
       rintro _ rfl a' w' hs'
       exact hK a' w' ⟨p5, p6, v1, hs'.putF (i := 7) rfl [] [0, 1, 2, 3, 4] rfl rfl rfl rfl⟩
      ·intro L a w hv K Q hK
       obtain ⟨p5, p6, v1, hs⟩ := hv
       refine wpOp_go rfl rfl hs (OpT_move rfl rfl rfl rfl) ?_
       rintro _ rfl a' w' hs'
       exact hK a' w' ⟨p5, p6, v1, hs'.putF (i := 8) rfl [] [0, 1, 2, 3, 4] rfl rfl rfl rfl⟩
      ·intro L a w hv K Q hK
       obtain ⟨p5, p6, v1, hs⟩ := hv
       refine wpOp_go rfl rfl hs (OpT_idxS rfl rfl rfl rfl rfl slF22 (i := 0) rfl hx4) ?_
       rintro _ ⟨p5', rfl⟩ a' w' hs'
       exact hK a' w' ⟨p5', p6, v1, hs'.putF (i := 9) rfl [] [0, 1, 5, 3, 4] rfl rfl rfl rfl⟩
      ·intro L a w hv K Q hK
       obtain ⟨p5, p6, v1, hs⟩ := hv
       refine wpOp_go rfl rfl hs (OpT_fieldP (S' := u64S) (y := s3.At) rfl rfl rfl rfl fldF47x0 (i := 2) rfl (by intro h cs hr; subst hr; rfl)) ?_
       rintro _ ⟨p6', rfl⟩ a' w' hs'
       exact hK a' w' ⟨p5, p6', v1, hs'.putF (i := 10) rfl [] [0, 1, 2, 5, 4] rfl rfl rfl rfl⟩
      ·intro L a w hv K Q hK
       obtain ⟨p5, p6, v1, hs⟩ := hv
       refine wpOp_go rfl rfl hs (OpT_loadP rfl rfl rfl rfl tyF23 (i := 3) rfl rfl) ?_
       rintro _ rfl a' w' hs'
       exact hK a' w' ⟨p5, p6, v1, hs'.putF (i := 11) rfl [] [0, 1, 2, 3, 4] rfl rfl rfl rfl⟩
      ·intro L a w hv K Q hK
       obtain ⟨p5, p6, v1, hs⟩ := hv
       refine wpOp_go rfl rfl hs (OpT_move rfl rfl rfl rfl) ?_
       rintro _ rfl a' w' hs'
       exact hK a' w' ⟨p5, p6, v1, hs'.putF (i := 12) rfl [] [0, 1, 2, 3, 4] rfl rfl rfl rfl⟩
      ·intro L a w hv K Q hK
       obtain ⟨p5, p6, v1, hs⟩ := hv
       refine wpOp_go rfl rfl hs (OpT_move rfl rfl rfl rfl) ?_
       rintro _ rfl a' w' hs'
       exact hK a' w' ⟨p5, p6, v1, hs'.putF (i := 13) rfl [] [0, 1, 2, 3, 4] rfl rfl rfl rfl⟩
      ·intro L a w hv K Q hK
       obtain ⟨p5, p6, v1, hs⟩ := hv
       refine wpOp_go rfl rfl hs (OpT_move rfl rfl rfl rfl) ?_
       rintro _ rfl a' w' hs'
       exact hK a' w' ⟨p5, p6, v1, hs'.putF (i := 14) rfl [] [0, 1, 2, 3, 4] rfl rfl rfl rfl⟩
      ·intro L a w hv K Q hK
       obtain ⟨p5, p6, v1, hs⟩ := hv
       refine wpOp_go rfl rfl hs (OpT_move rfl rfl rfl rfl) ?_
       rintro _ rfl a' w' hs'
       exact hK a' w' ⟨p5, p6, v1, hs'.putF (i := 15) rfl [] [0, 1, 2, 3, 4] rfl rfl rfl rfl⟩
      ·intro L a w hv K Q hK
       obtain ⟨p5, p6, v1, hs⟩ := hv
       refine wpOp_go rfl rfl hs (OpT_bin rfl rfl rfl rfl rfl (bin_add_i (a := n1) (b := mini (wi ((len b) - n1)) (i32 s2.Len)))) ?_
       rintro _ rfl a' w' hs'
       exact hK a' w' ⟨p5, p6, v1, hs'.putF (i := 16) rfl [] [0, 1, 2, 3, 4] rfl rfl rfl rfl⟩
      ·intro L a w hv K Q hK
       obtain ⟨p5, p6, v1, hs⟩ := hv
       refine wpOp_go rfl rfl hs (OpT_sliceLH (l := n1) (m := wi (n1 + (mini (wi ((len b) - n1)) (i32 s2.Len)))) rfl rfl rfl rfl rfl rfl slF33 (i := 1) rfl hc1) ?_
       rintro _ ⟨v1', rfl⟩ a' w' hs'
       exact hK a' w' ⟨p5, p6, v1', hs'.putF (i := 17) rfl [] [0, 1, 2, 3, 5] rfl rfl rfl rfl⟩
      ·intro L a w hL hv
       rw [allTrue hL] at hv
       obtain ⟨p5, p6, v1, hs⟩ := hv
       refine (show TA _ _ _ 12 ⟨[(0, some (.pointer none)), (1, some (vl1)), (2, some (vb1)), (9, some (vI n1)), (10, some (vI i1)), (11, some (vI (mini (wi ((len b) - n1)) (i32 s2.Len)))), (40, some (.pointer none)), (45, some (vU64 s3.At)), (51, some (v1))], [], [Fact.sl SegS vl1 l, Fact.sl u8S vb1 b, Fact.sl u8S v1 (sub b n1 (wi (n1 + (mini (wi ((len b) - n1)) (i32 s2.Len)))))]⟩ from ?_) a w (hs.wkS [0, 1, 2, 9, 10, 11, 40, 45, 51] [] [0, 1, 4] rfl rfl rfl rfl)
       clear hs hL
       obtain ⟨write1, hx5, h⟩ := ob_e h
       refine TA_exP htb (by kernel_rfl) rfl rfl (OpT_call (w_ref_Mem_Write02n0 hx5) [] [2] rfl rfl rfl rfl rfl callee48 rfl rfl rfl rfl) ?_
       rintro _ ⟨_, _, _, ⟨rfl, rfl, rfl⟩, rfl⟩
       refine TA_end rfl ?_
       refine Tk_wkS (fr' := [(0, some (.pointer none)), (1, some (vl1)), (2, some (vb1)), (9, some (vI n1)), (10, some (vI i1)), (11, some (vI (mini (wi ((len b) - n1)) (i32 s2.Len))))]) (own' := []) (shr' := [Fact.sl SegS vl1 l, Fact.sl u8S vb1 b]) [0, 1, 2, 9, 10, 11] [] [0, 1] rfl rfl rfl rfl ?_
       refine Tk_region ?_
       refine Tops_step rfl (OpT_move rfl rfl rfl rfl) ?_
       refine Tops_step rfl (OpT_move rfl rfl rfl rfl) ?_
       refine Tops_step rfl (OpT_bin rfl rfl rfl rfl rfl (bin_add_i (a := n1) (b := mini (wi ((len b) - n1)) (i32 s2.Len)))) ?_
       refine Tops_step rfl (OpT_assign rfl rfl rfl rfl) ?_
       refine Tops_nil ?_
       refine Tk_wkS (fr' := [(0, some (.pointer none)), (1, some (vl1)), (2, some (vb1)), (9, some (vI (wi (n1 + (mini (wi ((len b) - n1)) (i32 s2.Len)))))), (10, some (vI i1))]) (own' := []) (shr' := [Fact.sl SegS vl1 l, Fact.sl u8S vb1 b]) [0, 1, 2, 9, 10] [] [0, 1] rfl rfl rfl rfl ?_
       exact Tk_jmpS (HJ2 (wi (n1 + (mini (wi ((len b) - n1)) (i32 s2.Len)))) h) [0, 1, 2, 9, 10] [] [0, 1] rfl rfl rfl rfl
     ·replace h := br_f hg3 h
      refine Tk_condF (congrArg (fun b => some (Value.bool b)) hg3) ?_
      refine Tk_skip ?_
      exact Tk_jmpS (HJ2 n1 h) [0, 1, 2, 9, 10] [] [0, 1] rfl rfl rfl rfl
  ·replace h := br_f hg2 h
   refine Tk_condF (congrArg (fun b => some (Value.bool b)) hg2) ?_
   refine Tk_exit _ rfl ?_
   refine Tk_seq ?_
   refine Tk_region ?_
   refine Tops_step rfl (OpT_move rfl rfl rfl rfl) ?_
   refine Tops_step rfl (OpT_assign rfl rfl rfl rfl) ?_
   refine Tops_step rfl (OpT_assign rfl rfl rfl rfl) ?_
   refine Tops_nil ?_
   refine Tk_wkS (fr' := [(6, some (vI n1)), (7, some (vI (0 : Int)))]) (own' := []) (shr' := []) [6, 7] [] [] rfl rfl rfl rfl ?_
   obtain rfl := Option.some.inj h
   exact Tk_retV rfl rfl (resA (vs := [vI n1, vI (0 : Int)]) rfl ⟨rfl, rfl, trivial⟩) [] [] rfl rfl rfl ⟨rfl, rfl, rfl⟩

set_option maxRecDepth 100000 in
set_option maxHeartbeats 4000000 in
theorem w_ref_Mem_Read02n0 {atp1 : UInt64} {np2 : Int} {r : ((List UInt8) × Int)} (h : ref_Mem_Read02n0 atp1 np2 = some r) :
  Ctr Try.prog 49 #[.pointer none, vU64 atp1, vI np2] [] []
   (fun rv own shr => ∃ (w1 : Value), rv = .tuple #[w1, vI r.2] ∧ own = [(rowS u8S w1 r.1)] ∧ shr = []) := by
 unfold ref_Mem_Read02n0 at h
 refine Ctr.mk (args := [.pointer none, vU64 atp1, vI np2]) Try.func49 rfl rfl (fun R0 w0 B => ?_)
 refine Tk_seq ?_
 refine Tk_region ?_
 refine Tops_step rfl (OpT_assign rfl rfl rfl rfl) ?_
 refine Tops_step rfl (OpT_assign rfl rfl rfl rfl) ?_
 refine Tops_nil ?_
 refine Tk_wkS (fr' := [(0, some (.pointer none)), (1, some (vU64 atp1)), (2, some (vI np2))]) (own' := []) (shr' := []) [0, 1, 2] [] [] rfl rfl rfl rfl ?_
 refine Tk_seq ?_
 refine Tk_seq ?_
 refine Tk_region ?_
 refine Tops_step rfl (OpT_move rfl rfl rfl rfl) ?_
 refine Tops_step rfl (OpT_bin rfl rfl rfl rfl rfl (bin_lss_i (a := np2) (b := (0 : Int)))) ?_
 refine Tops_nil ?_
 refine Tk_wkS (fr' := [(0, some (.pointer none)), (1, some (vU64 atp1)), (2, some (vI np2)), (11, some (vB (decide (np2 < (0 : Int)))))]) (own' := []) (shr' := []) [0, 1, 2, 11] [] [] rfl rfl rfl rfl ?_
 rcases Bool.eq_false_or_eq_true (decide (np2 < (0 : Int))) with hg1 | hg1
 ·replace h := br_t hg1 h
  refine Tk_condT (congrArg (fun b => some (Value.bool b)) hg1) ?_
  refine Tk_seq ?_
  refine Tk_region ?_
  refine Tops_step rfl (OpT_assign rfl rfl rfl rfl) ?_
  refine Tops_step rfl (OpT_assign rfl rfl rfl rfl) ?_
  refine Tops_nil ?_
  refine Tk_wkS (fr' := [(6, some (.slice none 0 0)), (7, some (vI (2 : Int)))]) (own' := []) (shr' := []) [6, 7] [] [] rfl rfl rfl rfl ?_
  refine Tk_nilrow u8S ?_
  obtain rfl := Option.some.inj h
  exact Tk_retV rfl rfl (resA (vs := [.slice none 0 0, vI (2 : Int)]) rfl ⟨rfl, rfl, trivial⟩) [0] [] rfl rfl rfl ⟨(.slice none 0 0), rfl, rfl, rfl⟩
 ·replace h := br_f hg1 h
  refine Tk_condF (congrArg (fun b => some (Value.bool b)) hg1) ?_
  refine Tk_skip ?_
  refine Tk_seq ?_
  refine Tk_seq ?_
  refine Tk_region ?_
  refine Tops_step rfl (OpT_move rfl rfl rfl rfl) ?_
  refine Tops_step rfl (OpT_bin rfl rfl rfl rfl rfl (bin_eql_i (a := np2) (b := (0 : Int)))) ?_
  refine Tops_nil ?_
  refine Tk_wkS (fr' := [(0, some (.pointer none)), (1, some (vU64 atp1)), (2, some (vI np2)), (13, some (vB (np2 == (0 : Int))))]) (own' := []) (shr' := []) [0, 1, 2, 13] [] [] rfl rfl rfl rfl ?_
  rcases Bool.eq_false_or_eq_true (np2 == (0 : Int)) with hg2 | hg2
  ·replace h := br_t hg2 h
   refine Tk_condT (congrArg (fun b => some (Value.bool b)) hg2) ?_
   refine Tk_seq ?_
   refine Tk_region ?_
   refine Tops_step rfl (OpT_assign rfl rfl rfl rfl) ?_
   refine Tops_step rfl (OpT_assign rfl rfl rfl rfl) ?_
   refine Tops_nil ?_
   refine Tk_wkS (fr' := [(6, some (.slice none 0 0)), (7, some (vI (0 : Int)))]) (own' := []) (shr' := []) [6, 7] [] [] rfl rfl rfl rfl ?_
   refine Tk_nilrow u8S ?_
   obtain rfl := Option.some.inj h
   exact Tk_retV rfl rfl (resA (vs := [.slice none 0 0, vI (0 : Int)]) rfl ⟨rfl, rfl, trivial⟩) [0] [] rfl rfl rfl ⟨(.slice none 0 0), rfl, rfl, rfl⟩
  ·replace h := br_f hg2 h
   refine Tk_condF (congrArg (fun b => some (Value.bool b)) hg2) ?_
   refine Tk_skip ?_
   refine Tk_seq ?_
   refine Tk_region ?_
   refine Tops_step rfl (OpT_move rfl rfl rfl rfl) ?_
   refine Tops_step rfl (OpT_move rfl rfl rfl rfl) ?_
   refine Tops_step rfl (OpT_move rfl rfl rfl rfl) ?_
   refine Tops_step rfl (OpT_cnv rfl rfl rfl rfl (cnv_i_u64 (n := np2) Try.underlying3 Try.underlying23)) ?_
   obtain ⟨find1, hx1, h⟩ := ob_e h
   refine Tops_exP rfl (OpT_call (w_ref_Mem_find02n0 hx1) [] [] rfl rfl rfl rfl rfl callee53 rfl rfl rfl rfl) ?_
   rintro _ ⟨_, _, _, ⟨rfl, rfl, rfl⟩, rfl⟩
   refine Tops_step rfl (OpT_move rfl rfl rfl rfl) ?_
   refine Tops_step rfl (OpT_extract rfl rfl rfl rfl rfl) ?_
   refine Tops_step rfl (OpT_extract rfl rfl rfl rfl rfl) ?_
   refine Tops_step rfl (OpT_assign rfl rfl rfl rfl) ?_
   refine Tops_step rfl (OpT_assign rfl rfl rfl rfl) ?_
   refine Tops_nil ?_
   refine Tk_wkS (fr' := [(0, some (.pointer none)), (2, some (vI np2)), (8, some (vI find1.1)), (9, some (vI find1.2))]) (own' := []) (shr' := []) [0, 2, 8, 9] [] [] rfl rfl rfl rfl ?_
   refine Tk_seq ?_
   refine Tk_seq ?_
   refine Tk_region ?_
   refine Tops_step rfl (OpT_move rfl rfl rfl rfl) ?_
   refine Tops_step rfl (OpT_bin rfl rfl rfl rfl rfl (bin_lss_i (a := find1.1) (b := (0 : Int)))) ?_
   refine Tops_nil ?_
   refine Tk_wkS (fr' := [(0, some (.pointer none)), (2, some (vI np2)), (8, some (vI find1.1)), (9, some (vI find1.2)), (23, some (vB (decide (find1.1 < (0 : Int)))))]) (own' := []) (shr' := []) [0, 2, 8, 9, 23] [] [] rfl rfl rfl rfl ?_
   obtain ⟨hg3, h⟩ := chk_e h
   refine Tk_condT (congrArg (fun b => some (Value.bool b)) hg3) ?_
   refine Tk_seq ?_
   refine Tk_region ?_
   refine Tops_step rfl (OpT_assign rfl rfl rfl rfl) ?_
   refine Tops_step rfl (OpT_assign rfl rfl rfl rfl) ?_
   refine Tops_nil ?_
   refine Tk_wkS (fr' := [(6, some (.slice none 0 0)), (7, some (vI (5 : Int)))]) (own' := []) (shr' := []) [6, 7] [] [] rfl rfl rfl rfl ?_
   refine Tk_nilrow u8S ?_
   obtain rfl := Option.some.inj h
   exact Tk_retV rfl rfl (resA (vs := [.slice none 0 0, vI (5 : Int)]) rfl ⟨rfl, rfl, trivial⟩) [0] [] rfl rfl rfl ⟨(.slice none 0 0), rfl, rfl, rfl⟩

set_option maxRecDepth 100000 in
set_option maxHeartbeats 4000000 in
theorem w_ref_Gather05n0 {l : List Seg} {vl1 : Value} {r : ((List UInt8) × Int)} (h : ref_Gather05n0 l = some r) :
  Ctr Try.prog 33 #[.pointer none, vl1] [] [Fact.sl SegS vl1 l]
   (fun rv own shr => ∃ (w1 : Value), rv = .tuple #[w1, vI r.2] ∧ own = [(rowS u8S w1 r.1)] ∧ shr = []) := by
 unfold ref_Gather05n0 at h
 refine Ctr.mk (args := [.pointer none, vl1]) Try.func33 rfl rfl (fun R0 w0 B => ?_)
 refine Tk_seq ?_
 refine Tk_region ?_
 refine Tops_step rfl (OpT_assign rfl rfl rfl rfl) ?_
 refine Tops_step rfl (OpT_assign rfl rfl rfl rfl) ?_
 refine Tops_nil ?_
 refine Tk_wkS (fr' := [(0, some (.pointer none)), (1, some (vl1))]) (own' := []) (shr' := [Fact.sl SegS vl1 l]) [0, 1] [] [0] rfl rfl rfl rfl ?_
 refine Tk_seq ?_
 refine Tk_region ?_
 refine Tops_step rfl (OpT_move rfl rfl rfl rfl) ?_
 refine Tops_step rfl (OpT_move rfl rfl rfl rfl) ?_
 obtain ⟨in1, hx1, h⟩ := ob_e h
 refine Tops_exP rfl (OpT_call (w_ref_In05n0 hx1) [] [0] rfl rfl rfl rfl rfl callee27 rfl rfl rfl rfl) ?_
 rintro _ ⟨_, _, _, ⟨rfl, rfl, rfl⟩, rfl⟩
 refine Tops_step rfl (OpT_assign rfl rfl rfl rfl) ?_
 refine Tops_nil ?_
 refine Tk_wkS (fr' := [(0, some (.pointer none)), (1, some (vl1)), (6, some (vI in1))]) (own' := []) (shr' := [Fact.sl SegS vl1 l]) [0, 1, 6] [] [0] rfl rfl rfl rfl ?_
 refine Tk_seq ?_
 refine Tk_seq ?_
 refine Tk_region ?_
 refine Tops_step rfl (OpT_move rfl rfl rfl rfl) ?_
 refine Tops_step rfl (OpT_bin rfl rfl rfl rfl rfl (bin_neq_i (a := in1) (b := (0 : Int)))) ?_
 refine Tops_nil ?_
 refine Tk_wkS (fr' := [(0, some (.pointer none)), (1, some (vl1)), (6, some (vI in1)), (15, some (vB (in1 != (0 : Int))))]) (own' := []) (shr' := [Fact.sl SegS vl1 l]) [0, 1, 6, 15] [] [0] rfl rfl rfl rfl ?_
 rcases Bool.eq_false_or_eq_true (in1 != (0 : Int)) with hg1 | hg1
 ·replace h := br_t hg1 h
  refine Tk_condT (congrArg (fun b => some (Value.bool b)) hg1) ?_
  refine Tk_seq ?_
  refine Tk_region ?_
  refine Tops_step rfl (OpT_move rfl rfl rfl rfl) ?_
  refine Tops_step rfl (OpT_assign rfl rfl rfl rfl) ?_
  refine Tops_step rfl (OpT_assign rfl rfl rfl rfl) ?_
  refine Tops_nil ?_
  refine Tk_wkS (fr' := [(4, some (.slice none 0 0)), (5, some (vI in1))]) (own' := []) (shr' := []) [4, 5] [] [] rfl rfl rfl rfl ?_
  refine Tk_nilrow u8S ?_
  obtain rfl := Option.some.inj h
  exact Tk_retV rfl rfl (resA (vs := [.slice none 0 0, vI in1]) rfl ⟨rfl, rfl, trivial⟩) [0] [] rfl rfl rfl ⟨(.slice none 0 0), rfl, rfl, rfl⟩
 ·replace h := br_f hg1 h
  refine Tk_condF (congrArg (fun b => some (Value.bool b)) hg1) ?_
  refine Tk_skip ?_
  refine Tk_seq ?_
  refine Tk_region ?_
  refine Tops_step rfl (OpT_assign rfl rfl rfl rfl) ?_
  refine Tops_nil ?_
  refine Tk_wkS (fr' := [(0, some (.pointer none)), (1, some (vl1)), (7, some (.slice none 0 0))]) (own' := []) (shr' := [Fact.sl SegS vl1 l]) [0, 1, 7] [] [0] rfl rfl rfl rfl ?_
  refine Tk_seq ?_
  refine Tk_seq ?_
  refine Tk_region ?_
  refine Tops_step rfl (OpT_assign rfl rfl rfl rfl) ?_
  refine Tops_nil ?_
  refine Tk_block ?_
  refine Tk_nilrow u8S ?_
  refine Tk_loopS (σ := (List UInt8) × Int × Value) [0, 1, 7, 8] [0] [0] (fun s => ⟨[(0, some (.pointer none)), (1, some (vl1)), (7, some (s.2.2)), (8, some (vI s.2.1))], [some (rowS u8S s.2.2 s.1)], [Fact.sl SegS vl1 l]⟩) (fun nf s => ref_Gather05n0L1 l nf s.1 s.2.1 = some r) fuel ([], (0 : Int), (.slice none 0 0)) h rfl rfl rfl rfl rfl (fun s h => by cases h) ?_
  rintro nf ⟨out1, i1, v1⟩ h
  replace h : ref_Gather05n0L1B l (ref_Gather05n0L1 l nf) out1 i1 = some r := h
  unfold ref_Gather05n0L1B at h
  refine Tk_seq ?_
  refine Tk_seq ?_
  refine Tk_region ?_
  refine Tops_step rfl (OpT_move rfl rfl rfl rfl) ?_
  refine Tops_step rfl (OpT_move rfl rfl rfl rfl) ?_
  refine Tops_step rfl (OpT_lenS rfl rfl rfl rfl Try.underlying22 (i := 0) rfl) ?_
  refine Tops_step rfl (OpT_bin rfl rfl rfl rfl rfl (bin_lss_i (a := i1) (b := len l))) ?_
  refine Tops_nil ?_
  refine Tk_wkS (fr' := [(0, some (.pointer none)), (1, some (vl1)), (7, some (v1)), (8, some (vI i1)), (20, some (vB (decide (i1 < (len l)))))]) (own' := [some (rowS u8S v1 out1)]) (shr' := [Fact.sl SegS vl1 l]) [0, 1, 7, 8, 20] [0] [0] rfl rfl rfl rfl ?_
  rcases Bool.eq_false_or_eq_true (decide (i1 < (len l))) with hg2 | hg2
  ·replace h := br_t hg2 h
   refine Tk_condT (congrArg (fun b => some (Value.bool b)) hg2) ?_
   refine Tk_skip ?_
   refine Tk_seq ?_
   refine Tk_join (α := (List UInt8) × Value) (fun s => ⟨[(0, some (.pointer none)), (1, some (vl1)), (7, some (s.2)), (8, some (vI i1))], [some (rowS u8S s.2 s.1)], [Fact.sl SegS vl1 l]⟩) (fun s => ref_Gather05n0J2 i1 (ref_Gather05n0L1 l nf) s.1 = some r) ?_ ?_
   ·rintro ⟨out2, v2⟩ h
    replace h : ref_Gather05n0J2 i1 (ref_Gather05n0L1 l nf) out2 = some r := h
    unfold ref_Gather05n0J2 at h
    refine Tk_region ?_
    refine Tops_step rfl (OpT_move rfl rfl rfl rfl) ?_
    refine Tops_step rfl (OpT_bin rfl rfl rfl rfl rfl (bin_add_i (a := i1) (b := (1 : Int)))) ?_
    refine Tops_step rfl (OpT_assign rfl rfl rfl rfl) ?_
    refine Tops_nil ?_
    refine Tk_wkS (fr' := [(0, some (.pointer none)), (1, some (vl1)), (7, some (v2)), (8, some (vI (wi (i1 + (1 : Int)))))]) (own' := [some (rowS u8S v2 out2)]) (shr' := [Fact.sl SegS vl1 l]) [0, 1, 7, 8] [0] [0] rfl rfl rfl rfl ?_
    exact Tk_backS (out2, wi (i1 + (1 : Int)), v2) h [0, 1, 7, 8] [0] [0] rfl rfl rfl rfl rfl
   ·intro HJ1
    refine Tk_block ?_
    refine Tk_seq ?_
    refine Tk_region ?_
    refine Tops_step rfl (OpT_move rfl rfl rfl rfl) ?_
    refine Tops_step rfl (OpT_move rfl rfl rfl rfl) ?_
    obtain ⟨s1, hx2, h⟩ := ob_e h
    refine Tops_ex rfl (OpT_idxS rfl rfl rfl rfl rfl slF22 (i := 0) rfl hx2) fun p1 => ?_
    refine Tops_ex rfl (OpT_fieldP (S' := bS) (y := s1.Write) rfl rfl rfl rfl fldF47x2 (i := 1) rfl (by intro h cs hr; subst hr; rfl)) fun p2 => ?_
    refine Tops_step rfl (OpT_loadP rfl rfl rfl rfl tyF4 (i := 2) rfl rfl) ?_
    refine Tops_step rfl (OpT_not rfl rfl rfl rfl) ?_
    refine Tops_nil ?_
    refine Tk_wkS (fr' := [(0, some (.pointer none)), (1, some (vl1)), (7, some (v1)), (8, some (vI i1)), (28, some (vB (!s1.Write)))]) (own' := [some (rowS u8S v1 out1)]) (shr' := [Fact.sl SegS vl1 l]) [0, 1, 7, 8, 28] [0] [0] rfl rfl rfl rfl ?_
    refine Tk_join (α := (List UInt8) × Value) (fun s => ⟨[(0, some (.pointer none)), (1, some (vl1)), (7, some (s.2)), (8, some (vI i1))], [some (rowS u8S s.2 s.1)], [Fact.sl SegS vl1 l]⟩) (fun s => ref_Gather05n0J3 i1 (ref_Gather05n0L1 l nf) s.1 = some r) ?_ ?_
    ·rintro ⟨out3, v3⟩ h
     replace h : ref_Gather05n0J3 i1 (ref_Gather05n0L1 l nf) out3 = some r := h
     unfold ref_Gather05n0J3 at h
     refine Tk_blk ?_
     exact Tk_jmpS (HJ1 (out3, v3) h) [0, 1, 7, 8] [0] [0] rfl rfl rfl rfl
    ·intro HJ2
     rcases Bool.eq_false_or_eq_true ((!s1.Write)) with hg3 | hg3
     ·replace h := br_t hg3 h
      refine Tk_condT (congrArg (fun b => some (Value.bool b)) hg3) ?_
      refine Tk_seq ?_
      refine Tk_drawT (by kernel_rfl) ?_
      refine TA_tb [0, 0, 0, 6, 14, 30, 0, 0, 192, 448, 960, 1984, 4095, 8191, 16383, 16383, 32767, 131071] (by kernel_rfl) fun htb => ?_
      refine TA_wkS (fr' := [(0, some (.pointer none)), (1, some (vl1)), (7, some (v1)), (8, some (vI i1))]) (own' := [some (rowS u8S v1 out1)]) (shr' := [Fact.sl SegS vl1 l]) [0, 1, 7, 8] [0] [0] rfl rfl rfl rfl ?_
      obtain ⟨s2, hx3, h⟩ := ob_e h
      obtain ⟨s3, hx4, h⟩ := ob_e h
      refine TA_seg (lo := 0) (hi := 12) htb rfl rfl (by kernel_rfl) (fun c L a w => ∃ (p3 : Value), ∃ (p4 : Value), ∃ (p5 : Value), ∃ (p6 : Value), Sat c ⟨[(0, some (.pointer none)), (1, some (vl1)), (7, some (v1)), (8, some (vI i1)), (30, bif L 0 then some (.pointer none) else none), (31, bif L 1 then some (vl1) else none), (32, bif L 2 then some (vI i1) else none), (33, bif L 3 then some (p3) else none), (34, bif L 4 then some (p4) else none), (35, bif L 5 then some (vU64 s2.At) else none), (36, bif L 6 then some (vl1) else none), (37, bif L 7 then some (vI i1) else none), (38, bif L 8 then some (p5) else none), (39, bif L 9 then some (p6) else none), (40, bif L 10 then some (vU32 s3.Len) else none), (41, bif L 11 then some (vI (i32 s3.Len)) else none)], [(some (rowS u8S v1 out1) : Option Res)], [Fact.sl SegS vl1 l, (bif L 3 then Fact.pt SegS p3 s2 else Fact.tt), (bif L 4 then Fact.pt u64S p4 s2.At else Fact.tt), (bif L 8 then Fact.pt SegS p5 s3 else Fact.tt), (bif L 9 then Fact.pt u32S p6 s3.Len else Fact.tt)]⟩ a w) [([], []), ([], [3, 4, 5]), ([], [3, 4, 5]), ([1, 2], [4, 5]), ([1, 2, 3], [5]), ([1, 2, 3, 4], []), ([], [8, 9, 10, 11]), ([], [8, 9, 10, 11]), ([6, 7], [9, 10, 11]), ([6, 7, 8], [10, 11]), ([6, 7, 8, 9], [11]), ([6, 7, 8, 9, 10], [])] rfl (by kernel_rfl) ?_ (steps_cons ?_ (steps_cons ?_ (steps_cons ?_ (steps_cons ?_ (steps_cons ?_ (steps_cons ?_ (steps_cons ?_ (steps_cons ?_ (steps_cons ?_ (steps_cons ?_ (steps_cons ?_ (steps_cons ?_ (steps_nil))))))))))))) ?_
      ·intro a w hs
       exact ⟨undef, undef, undef, undef, hs.startF [30, 31, 32, 33, 34, 35, 36, 37, 38, 39, 40, 41] [0] [0, 1, 2, 3, 4] rfl rfl rfl rfl⟩
      ·intro L a w hv K Q hK
       obtain ⟨p3, p4, p5, p6, hs⟩ := hv
       refine wpOp_go rfl rfl hs (OpT_move rfl rfl rfl rfl) ?_
       rintro _ rfl a' w' hs'
       exact hK a' w' ⟨p3, p4, p5, p6, hs'.putF (i := 4) rfl [0] [0, 1, 2, 3, 4] rfl rfl rfl rfl⟩
      ·intro L a w hv K Q hK
       obtain ⟨p3, p4, p5, p6, hs⟩ := hv
       refine wpOp_go rfl rfl hs (OpT_move rfl rfl rfl rfl) ?_
       rintro _ rfl a' w' hs'
       exact hK a' w' ⟨p3, p4, p5, p6, hs'.putF (i := 5) rfl [0] [0, 1, 2, 3, 4] rfl rfl rfl rfl⟩
      ·intro L a w hv K Q hK
       obtain ⟨p3, p4, p5, p6, hs⟩ := hv
       refine wpOp_go rfl rfl hs (OpT_move rfl rfl rfl rfl) ?_
       rintro _ rfl a' w' hs'
       exact hK a' w' ⟨p3, p4, p5, p6, hs'.putF (i := 6) rfl [0] [0, 1, 2, 3, 4] rfl rfl rfl rfl⟩
      ·intro L a w hv K Q hK
       obtain ⟨p3, p4, p5, p6, hs⟩ := hv
       refine wpOp_go rfl rfl hs (OpT_idxS rfl rfl rfl rfl rfl slF22 (i := 0) rfl hx3) ?_
       rintro _ ⟨p3', rfl⟩ a' w' hs'
       exact hK a' w' ⟨p3', p4, p5, p6, hs'.putF (i := 7) rfl [0] [0, 5, 2, 3, 4] rfl rfl rfl rfl⟩
      ·intro L a w hv K Q hK
       obtain ⟨p3, p4, p5, p6, hs⟩ := hv
       refine wpOp_go rfl rfl hs (OpT_fieldP (S' := u64S) (y := s2.At) rfl rfl rfl rfl fldF47x0 (i := 1) rfl (by intro h cs hr; subst hr; rfl)) ?_
       rintro _ ⟨p4', rfl⟩ a' w' hs'
       exact hK a' w' ⟨p3, p4', p5, p6, hs'.putF (i := 8) rfl [0] [0, 1, 5, 3, 4] rfl rfl rfl rfl⟩
      ·intro L a w hv K Q hK
       obtain ⟨p3, p4, p5, p6, hs⟩ := hv
       refine wpOp_go rfl rfl hs (OpT_loadP rfl rfl rfl rfl tyF23 (i := 2) rfl rfl) ?_
       rintro _ rfl a' w' hs'
       exact hK a' w' ⟨p3, p4, p5, p6, hs'.putF (i := 9) rfl [0] [0, 1, 2, 3, 4] rfl rfl rfl rfl⟩
      ·intro L a w hv K Q hK
       obtain ⟨p3, p4, p5, p6, hs⟩ := hv
       refine wpOp_go rfl rfl hs (OpT_move rfl rfl rfl rfl) ?_
       rintro _ rfl a' w' hs'
       exact hK a' w' ⟨p3, p4, p5, p6, hs'.putF (i := 10) rfl [0] [0, 1, 2, 3, 4] rfl rfl rfl rfl⟩
      ·intro L a w hv K Q hK
       obtain ⟨p3, p4, p5, p6, hs⟩ := hv
       refine wpOp_go rfl rfl hs (OpT_move rfl rfl rfl rfl) ?_
       rintro _ rfl a' w' hs'
       exact hK a' w' ⟨p3, p4, p5, p6, hs'.putF (i := 11) rfl [0] [0, 1, 2, 3, 4] rfl rfl rfl rfl⟩
      ·intro L a w hv K Q hK
       obtain ⟨p3, p4, p5, p6, hs⟩ := hv
       refine wpOp_go rfl rfl hs (OpT_idxS rfl rfl rfl rfl rfl slF22 (i := 0) rfl hx4) ?_
       rintro _ ⟨p5', rfl⟩ a' w' hs'
       exact hK a' w' ⟨p3, p4, p5', p6, hs'.putF (i := 12) rfl [0] [0, 1, 2, 5, 4] rfl rfl rfl rfl⟩
      ·intro L a w hv K Q hK
       obtain ⟨p3, p4, p5, p6, hs⟩ := hv
       refine wpOp_go rfl rfl hs (OpT_fieldP (S' := u32S) (y := s3.Len) rfl rfl rfl rfl fldF47x1 (i := 3) rfl (by intro h cs hr; subst hr; rfl)) ?_
       rintro _ ⟨p6', rfl⟩ a' w' hs'
       exact hK a' w' ⟨p3, p4, p5, p6', hs'.putF (i := 13) rfl [0] [0, 1, 2, 3, 5] rfl rfl rfl rfl⟩
      ·intro L a w hv K Q hK
       obtain ⟨p3, p4, p5, p6, hs⟩ := hv
       refine wpOp_go rfl rfl hs (OpT_loadP rfl rfl rfl rfl tyF45 (i := 4) rfl rfl) ?_
       rintro _ rfl a' w' hs'
       exact hK a' w' ⟨p3, p4, p5, p6, hs'.putF (i := 14) rfl [0] [0, 1, 2, 3, 4] rfl rfl rfl rfl⟩
      ·intro L a w hv K Q hK
       obtain ⟨p3, p4, p5, p6, hs⟩ := hv
       refine wpOp_go rfl rfl hs (OpT_cnv rfl rfl rfl rfl (cnv_u32_i (n := s3.Len) Try.underlying45 Try.underlying3)) ?_
       rintro _ rfl a' w' hs'
       exact hK a' w' ⟨p3, p4, p5, p6, hs'.putF (i := 15) rfl [0] [0, 1, 2, 3, 4] rfl rfl rfl rfl⟩
      ·intro L a w hL hv
       rw [allTrue hL] at hv
       obtain ⟨p3, p4, p5, p6, hs⟩ := hv
       refine (show TA _ _ _ 12 ⟨[(0, some (.pointer none)), (1, some (vl1)), (7, some (v1)), (8, some (vI i1)), (30, some (.pointer none)), (35, some (vU64 s2.At)), (41, some (vI (i32 s3.Len)))], [some (rowS u8S v1 out1)], [Fact.sl SegS vl1 l]⟩ from ?_) a w (hs.wkS [0, 1, 7, 8, 30, 35, 41] [0] [0] rfl rfl rfl rfl)
       clear hs hL
       obtain ⟨read1, hx5, h⟩ := ob_e h
       refine TA_exP htb (by kernel_rfl) rfl rfl (OpT_call (w_ref_Mem_Read02n0 hx5) [] [] rfl rfl rfl rfl rfl callee49 rfl rfl rfl rfl) ?_
       rintro _ ⟨_, _, _, ⟨v4, rfl, rfl, rfl⟩, rfl⟩
       refine TA_step htb (by kernel_rfl) rfl rfl (OpT_move rfl rfl rfl rfl) ?_
       refine TA_wkS (fr' := [(0, some (.pointer none)), (1, some (vl1)), (7, some (v1)), (8, some (vI i1)), (29, some (.tuple #[v4, vI read1.2]))]) (own' := [some (rowS u8S v1 out1), some (rowS u8S v4 read1.1)]) (shr' := [Fact.sl SegS vl1 l]) [0, 1, 7, 8, 29] [0, 1] [0] rfl rfl rfl rfl ?_
       refine TA_seg (lo := 14) (hi := 17) htb rfl rfl (by kernel_rfl) (fun c L a w => Sat c ⟨[(0, some (.pointer none)), (1, some (vl1)), (7, some (v1)), (8, some (vI i1)), (29, some (.tuple #[v4, vI read1.2])), (43, bif L 14 then some (v4) else none), (44, bif L 15 then some (vI read1.2) else none), (9, bif L 16 then some (v4) else none)], [(some (rowS u8S v1 out1) : Option Res), (some (rowS u8S v4 read1.1) : Option Res)], [Fact.sl SegS vl1 l]⟩ a w) [([], [16]), ([], []), ([14], [])] rfl (by kernel_rfl) ?_ (steps_cons ?_ (steps_cons ?_ (steps_cons ?_ (steps_nil)))) ?_
       ·intro a w hs
        exact hs.startF [43, 44, 9] [0, 1] [0] rfl rfl rfl rfl
       ·intro L a w hv K Q hK
        have hs := hv
        refine wpOp_go rfl rfl hs (OpT_extract rfl rfl rfl rfl rfl) ?_
        rintro _ rfl a' w' hs'
        exact hK a' w' (hs'.putF (i := 5) rfl [0, 1] [0] rfl rfl rfl rfl)
       ·intro L a w hv K Q hK
        have hs := hv
        refine wpOp_go rfl rfl hs (OpT_extract rfl rfl rfl rfl rfl) ?_
        rintro _ rfl a' w' hs'
        exact hK a' w' (hs'.putF (i := 6) rfl [0, 1] [0] rfl rfl rfl rfl)
       ·intro L a w hv K Q hK
        have hs := hv
        refine wpOp_go rfl rfl hs (OpT_assign rfl rfl rfl rfl) ?_
        rintro _ rfl a' w' hs'
        exact hK a' w' (hs'.putF (i := 7) rfl [0, 1] [0] rfl rfl rfl rfl)
       ·intro L a w hL hv
        rw [allTrue hL] at hv
        have hs := hv
        refine (show TA _ _ _ 17 ⟨[(0, some (.pointer none)), (1, some (vl1)), (7, some (v1)), (8, some (vI i1)), (44, some (vI read1.2)), (9, some (v4))], [some (rowS u8S v1 out1), some (rowS u8S v4 read1.1)], [Fact.sl SegS vl1 l]⟩ from ?_) a w (hs.wkS [0, 1, 7, 8, 44, 9] [0, 1] [0] rfl rfl rfl rfl)
        clear hs hL
        refine TA_step htb (by kernel_rfl) rfl rfl (OpT_assign rfl rfl rfl rfl) ?_
        refine TA_end rfl ?_
        refine Tk_wkS (fr' := [(0, some (.pointer none)), (1, some (vl1)), (7, some (v1)), (8, some (vI i1)), (9, some (v4))]) (own' := [some (rowS u8S v1 out1), some (rowS u8S v4 read1.1)]) (shr' := [Fact.sl SegS vl1 l]) [0, 1, 7, 8, 9] [0, 1] [0] rfl rfl rfl rfl ?_
        refine Tk_region ?_
        refine Tops_step rfl (OpT_move rfl rfl rfl rfl) ?_
        refine Tops_step rfl (OpT_move rfl rfl rfl rfl) ?_
        obtain ⟨hc1, h⟩ := chk_e h
        refine Tops_ex rfl (OpT_appendB (S := u8S) rfl rfl rfl rfl rfl rfl slF33 (i := 0) (j := 1) rfl rfl hc1) fun v5 => ?_
        refine Tops_step rfl (OpT_assign rfl rfl rfl rfl) ?_
        refine Tops_nil ?_
        refine Tk_wkS (fr' := [(0, some (.pointer none)), (1, some (vl1)), (7, some (v5)), (8, some (vI i1))]) (own' := [some (rowS u8S v5 (out1 ++ read1.1))]) (shr' := [Fact.sl SegS vl1 l]) [0, 1, 7, 8] [0] [0] rfl rfl rfl rfl ?_
        exact Tk_jmpS (HJ2 (out1 ++ read1.1, v5) h) [0, 1, 7, 8] [0] [0] rfl rfl rfl rfl
     ·replace h := br_f hg3 h
      refine Tk_condF (congrArg (fun b => some (Value.bool b)) hg3) ?_
      refine Tk_skip ?_
      exact Tk_jmpS (HJ2 (out1, v1) h) [0, 1, 7, 8] [0] [0] rfl rfl rfl rfl
  ·replace h := br_f hg2 h
   refine Tk_condF (congrArg (fun b => some (Value.bool b)) hg2) ?_
   refine Tk_exit _ rfl ?_
   refine Tk_seq ?_
   refine Tk_region ?_
   refine Tops_step rfl (OpT_move rfl rfl rfl rfl) ?_
   refine Tops_step rfl (OpT_assign rfl rfl rfl rfl) ?_
   refine Tops_step rfl (OpT_assign rfl rfl rfl rfl) ?_
   refine Tops_nil ?_
   refine Tk_wkS (fr' := [(4, some (v1)), (5, some (vI (0 : Int)))]) (own' := [some (rowS u8S v1 out1)]) (shr' := []) [4, 5] [0] [] rfl rfl rfl rfl ?_
   obtain rfl := Option.some.inj h
   exact Tk_retV rfl rfl (resA (vs := [v1, vI (0 : Int)]) rfl ⟨rfl, rfl, trivial⟩) [0] [] rfl rfl rfl ⟨v1, rfl, rfl, rfl⟩

theorem ws_gmem_Mem_Imagen0  {r : (List UInt8)} (h : gmem_Mem_Imagen0 = some r) :
  Ctr Try.prog 20 #[.pointer none] [] []
   (fun rv own shr => ∃ (w1 : Value), rv = w1 ∧ own = [] ∧ shr = [Fact.sl u8S w1 r]) :=
 Ctr.sh (w_gmem_Mem_Imagen0 h) (by rintro w1 _ _ ⟨_, rfl, rfl, rfl⟩; exact ⟨[], _, _, _, _, rfl, w1, rfl, rfl, rfl⟩)

set_option maxRecDepth 100000 in
set_option maxHeartbeats 4000000 in
theorem w_ref_Mem_Image02n0  {r : (List UInt8)} (h : ref_Mem_Image02n0 = some r) :
  Ctr Try.prog 34 #[.pointer none] [] []
   (fun rv own shr => ∃ (w1 : Value), rv = w1 ∧ own = [(rowS u8S w1 r)] ∧ shr = []) := by
 unfold ref_Mem_Image02n0 at h
 refine Ctr.mk (args := [.pointer none]) Try.func34 rfl rfl (fun R0 w0 B => ?_)
 refine Tk_seq ?_
 refine Tk_region ?_
 refine Tops_step rfl (OpT_assign rfl rfl rfl rfl) ?_
 refine Tops_nil ?_
 refine Tk_wkS (fr' := [(0, some (.pointer none))]) (own' := []) (shr' := []) [0] [] [] rfl rfl rfl rfl ?_
 refine Tk_seq ?_
 refine Tk_region ?_
 refine Tops_step rfl (OpT_assign rfl rfl rfl rfl) ?_
 refine Tops_nil ?_
 refine Tk_seq ?_
 refine Tk_seq ?_
 refine Tk_region ?_
 refine Tops_step rfl (OpT_assign rfl rfl rfl rfl) ?_
 refine Tops_nil ?_
 refine Tk_block ?_
 refine Tk_nilrow u8S ?_
 refine Tk_loopS (σ := (List UInt8) × Int × Value) [0, 3, 4] [0] [] (fun s => ⟨[(0, some (.pointer none)), (3, some (s.2.2)), (4, some (vI s.2.1))], [some (rowS u8S s.2.2 s.1)], []⟩) (fun nf s => ref_Mem_Image02n0L1 nf s.1 s.2.1 = some r) fuel ([], (0 : Int), (.slice none 0 0)) h rfl rfl rfl rfl rfl (fun s h => by cases h) ?_
 rintro nf ⟨out1, i1, v1⟩ h
 replace h : ref_Mem_Image02n0L1B (ref_Mem_Image02n0L1 nf) out1 i1 = some r := h
 unfold ref_Mem_Image02n0L1B at h
 cases h

theorem ws_ref_Mem_Image02n0  {r : (List UInt8)} (h : ref_Mem_Image02n0 = some r) :
  Ctr Try.prog 34 #[.pointer none] [] []
   (fun rv own shr => ∃ (w1 : Value), rv = w1 ∧ own = [] ∧ shr = [Fact.sl u8S w1 r]) :=
 Ctr.sh (w_ref_Mem_Image02n0 h) (by rintro w1 _ _ ⟨_, rfl, rfl, rfl⟩; exact ⟨[], _, _, _, _, rfl, w1, rfl, rfl, rfl⟩)

set_option maxRecDepth 100000 in
set_option maxHeartbeats 4000000 in
theorem w_ref_Mem_Image02 {m : dumbwaiterref02_Mem} {b_m : Nat} {vm1 : Value} {vm2 : Value} {vsm1 : List Value} {r : (List UInt8)} (h : ref_Mem_Image02 m = some r) :
  Ctr Try.prog 34 #[.pointer (some ⟨b_m, 0, none⟩)] [(cellsR b_m 76 [vm1, vm2]), (rowsX u8S false vm2 vsm1 m.B none)] [Fact.sl RegionS vm1 m.L]
   (fun rv own shr => ∃ (w1 : Value), rv = w1 ∧ own = [(cellsR b_m 76 [vm1, vm2]), (rowsX u8S false vm2 vsm1 m.B none), (rowS u8S w1 r)] ∧ shr = []) := by
 unfold ref_Mem_Image02 at h
 refine Ctr.mk (args := [.pointer (some ⟨b_m, 0, none⟩)]) Try.func34 rfl rfl (fun R0 w0 B => ?_)
 refine Tk_seq ?_
 refine Tk_region ?_
 refine Tops_step rfl (OpT_assign rfl rfl rfl rfl) ?_
 refine Tops_nil ?_
 refine Tk_wkS (fr' := [(0, some (.pointer (some ⟨b_m, 0, none⟩)))]) (own' := [some (cellsR b_m 76 [vm1, vm2]), some (rowsX u8S false vm2 vsm1 m.B none)]) (shr' := [Fact.sl RegionS vm1 m.L]) [0] [0, 1] [0] rfl rfl rfl rfl ?_
 refine Tk_seq ?_
 refine Tk_region ?_
 refine Tops_step rfl (OpT_assign rfl rfl rfl rfl) ?_
 refine Tops_nil ?_
 refine Tk_seq ?_
 refine Tk_seq ?_
 refine Tk_region ?_
 refine Tops_step rfl (OpT_assign rfl rfl rfl rfl) ?_
 refine Tops_nil ?_
 refine Tk_block ?_
 refine Tk_nilrow u8S ?_
 refine Tk_loopS (σ := (List UInt8) × Int × Value) [0, 3, 4] [0, 1, 2] [0] (fun s => ⟨[(0, some (.pointer (some ⟨b_m, 0, none⟩))), (3, some (s.2.2)), (4, some (vI s.2.1))], [some (cellsR b_m 76 [vm1, vm2]), some (rowsX u8S false vm2 vsm1 m.B none), some (rowS u8S s.2.2 s.1)], [Fact.sl RegionS vm1 m.L]⟩) (fun nf s => ref_Mem_Image02L1 m nf s.1 s.2.1 = some r) fuel ([], (0 : Int), (.slice none 0 0)) h rfl rfl rfl rfl rfl (fun s h => by cases h) ?_
 rintro nf ⟨out1, i1, v1⟩ h
 replace h : ref_Mem_Image02L1B m (ref_Mem_Image02L1 m nf) out1 i1 = some r := h
 unfold ref_Mem_Image02L1B at h
 refine Tk_seq ?_
 refine Tk_seq ?_
 refine Tk_region ?_
 refine Tops_step rfl (OpT_move rfl rfl rfl rfl) ?_
 refine Tops_step rfl (OpT_move rfl rfl rfl rfl) ?_
 refine Tops_step rfl (OpT_nilCheckP rfl rfl rfl rfl) ?_
 refine Tops_step rfl (OpT_fieldC rfl rfl rfl rfl fldF76x1) ?_
 refine Tops_step rfl (OpT_loadC rfl rfl rfl rfl tyF69 (i := 0) rfl rfl) ?_
 refine Tops_step rfl (OpT_lenRows rfl rfl rfl rfl Try.underlying69 (i := 1) rfl) ?_
 refine Tops_step rfl (OpT_bin rfl rfl rfl rfl rfl (bin_lss_i (a := i1) (b := len m.B))) ?_
 refine Tops_nil ?_
 refine Tk_wkS (fr' := [(0, some (.pointer (some ⟨b_m, 0, none⟩))), (3, some (v1)), (4, some (vI i1)), (11, some (vB (decide (i1 < (len m.B)))))]) (own' := [some (cellsR b_m 76 [vm1, vm2]), some (rowsX u8S false vm2 vsm1 m.B none), some (rowS u8S v1 out1)]) (shr' := [Fact.sl RegionS vm1 m.L]) [0, 3, 4, 11] [0, 1, 2] [0] rfl rfl rfl rfl ?_
 rcases Bool.eq_false_or_eq_true (decide (i1 < (len m.B))) with hg1 | hg1
 ·replace h := br_t hg1 h
  refine Tk_condT (congrArg (fun b => some (Value.bool b)) hg1) ?_
  refine Tk_skip ?_
  refine Tk_seq ?_
  refine Tk_block ?_
  refine Tk_region ?_
  refine Tops_step rfl (OpT_move rfl rfl rfl rfl) ?_
  refine Tops_step rfl (OpT_move rfl rfl rfl rfl) ?_
  refine Tops_step rfl (OpT_nilCheckP rfl rfl rfl rfl) ?_
  refine Tops_step rfl (OpT_fieldC rfl rfl rfl rfl fldF76x1) ?_
  refine Tops_step rfl (OpT_loadC rfl rfl rfl rfl tyF69 (i := 0) rfl rfl) ?_
  refine Tops_step rfl (OpT_move rfl rfl rfl rfl) ?_
  obtain ⟨row1, hx1, h⟩ := ob_e h
  refine Tops_step rfl (OpT_idxRows rfl rfl rfl rfl rfl slF69 (i := 1) rfl hx1) ?_
  refine Tops_vs (vs_focus (i := 1) (j := i1) rfl hx1) ?_
  refine Tops_step rfl (OpT_loadRow (m := i1) rfl rfl rfl rfl tyF33 (i := 1) rfl) ?_
  obtain ⟨hc1, h⟩ := chk_e h
  refine Tops_ex rfl (OpT_appendB (S := u8S) rfl rfl rfl rfl rfl rfl slF33 (i := 2) (j := 3) rfl rfl hc1) fun v2 => ?_
  refine Tops_step rfl (OpT_assign rfl rfl rfl rfl) ?_
  refine Tops_nil ?_
  refine Tk_wkS (fr' := [(0, some (.pointer (some ⟨b_m, 0, none⟩))), (3, some (v2)), (4, some (vI i1))]) (own' := [some (cellsR b_m 76 [vm1, vm2]), some (rowsX u8S false vm2 vsm1 m.B (some (Int.toNat i1, vsAt vsm1 (Int.toNat i1)))), some (rowS u8S v2 (out1 ++ row1)), some (rowS u8S (vsAt vsm1 (Int.toNat i1)) row1)]) (shr' := [Fact.sl RegionS vm1 m.L]) [0, 3, 4] [0, 1, 2, 3] [0] rfl rfl rfl rfl ?_
  refine Tk_blk ?_
  refine Tk_vs (vs_unfocus0 (i := 1) (q := 3) rfl rfl rfl hx1) ?_
  refine Tk_region ?_
  refine Tops_step rfl (OpT_move rfl rfl rfl rfl) ?_
  refine Tops_step rfl (OpT_bin rfl rfl rfl rfl rfl (bin_add_i (a := i1) (b := (1 : Int)))) ?_
  refine Tops_step rfl (OpT_assign rfl rfl rfl rfl) ?_
  refine Tops_nil ?_
  refine Tk_wkS (fr' := [(0, some (.pointer (some ⟨b_m, 0, none⟩))), (3, some (v2)), (4, some (vI (wi (i1 + (1 : Int)))))]) (own' := [some (cellsR b_m 76 [vm1, vm2]), some (rowsX u8S false vm2 vsm1 m.B none), some (rowS u8S v2 (out1 ++ row1))]) (shr' := [Fact.sl RegionS vm1 m.L]) [0, 3, 4] [0, 1, 2] [0] rfl rfl rfl rfl ?_
  exact Tk_backS (out1 ++ row1, wi (i1 + (1 : Int)), v2) h [0, 3, 4] [0, 1, 2] [0] rfl rfl rfl rfl rfl
 ·replace h := br_f hg1 h
  refine Tk_condF (congrArg (fun b => some (Value.bool b)) hg1) ?_
  refine Tk_exit _ rfl ?_
  refine Tk_seq ?_
  refine Tk_region ?_
  refine Tops_step rfl (OpT_move rfl rfl rfl rfl) ?_
  refine Tops_step rfl (OpT_assign rfl rfl rfl rfl) ?_
  refine Tops_nil ?_
  refine Tk_wkS (fr' := [(2, some (v1))]) (own' := [some (cellsR b_m 76 [vm1, vm2]), some (rowsX u8S false vm2 vsm1 m.B none), some (rowS u8S v1 out1)]) (shr' := [Fact.sl RegionS vm1 m.L]) [2] [0, 1, 2] [0] rfl rfl rfl rfl ?_
  obtain rfl := Option.some.inj h
  exact Tk_retV rfl rfl (resA (vs := [v1]) rfl ⟨rfl, trivial⟩) [0, 1, 2] [] rfl rfl rfl ⟨v1, rfl, rfl, rfl⟩

theorem ws_ref_Mem_Image02 {m : dumbwaiterref02_Mem} {b_m : Nat} {vm1 : Value} {vm2 : Value} {vsm1 : List Value} {r : (List UInt8)} (h : ref_Mem_Image02 m = some r) :
  Ctr Try.prog 34 #[.pointer (some ⟨b_m, 0, none⟩)] [(cellsR b_m 76 [vm1, vm2]), (rowsX u8S false vm2 vsm1 m.B none)] [Fact.sl RegionS vm1 m.L]
   (fun rv own shr => ∃ (w1 : Value), rv = w1 ∧ own = [(cellsR b_m 76 [vm1, vm2]), (rowsX u8S false vm2 vsm1 m.B none)] ∧ shr = [Fact.sl u8S w1 r]) :=
 Ctr.sh (w_ref_Mem_Image02 h) (by rintro w1 _ _ ⟨_, rfl, rfl, rfl⟩; exact ⟨[(cellsR b_m 76 [vm1, vm2]), (rowsX u8S false vm2 vsm1 m.B none)], _, _, _, _, rfl, w1, rfl, rfl, rfl⟩)

theorem ws_gmem_Mem_Image {m : gmem_Mem} {b_m : Nat} {vm1 : Value} {vm2 : Value} {vsm1 : List Value} {r : (List UInt8)} (h : gmem_Mem_Image m = some r) :
  Ctr Try.prog 20 #[.pointer (some ⟨b_m, 0, none⟩)] [(cellsR b_m 71 [vm1, vm2]), (rowsX u8S true vm2 vsm1 m.b none)] [Fact.sl RegionS vm1 m.l]
   (fun rv own shr => ∃ (w1 : Value), rv = w1 ∧ own = [(cellsR b_m 71 [vm1, vm2]), (rowsX u8S true vm2 vsm1 m.b none)] ∧ shr = [Fact.sl u8S w1 r]) :=
 Ctr.sh (w_gmem_Mem_Image h) (by rintro w1 _ _ ⟨_, rfl, rfl, rfl⟩; exact ⟨[(cellsR b_m 71 [vm1, vm2]), (rowsX u8S true vm2 vsm1 m.b none)], _, _, _, _, rfl, w1, rfl, rfl, rfl⟩)
end Go.Proofs.Ytkdekmjcfoahjaa
