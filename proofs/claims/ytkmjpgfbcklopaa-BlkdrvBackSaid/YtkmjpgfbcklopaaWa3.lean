/- The functions do what the plain words say: each is walked once. No statement of the seat is proved here; no condition. -/
import Derived.Test.YtkmjpgfbcklopaaWa2
namespace Go.Proofs.Ytkmjpgfbcklopaa
attribute [local irreducible] sub
set_option maxRecDepth 100000 in
set_option maxHeartbeats 4000000 in
theorem w_ref_In05 {m : dumbwaiterref02_Mem} {l : List Seg} {b_m : Nat} {vm1 : Value} {vm2 : Value} {vsm1 : List Value} {vl1 : Value} {r : Int} (h : ref_In05 m l = some r) :
  Ctr Try.prog 60 #[.pointer (some ⟨b_m, 0, none⟩), vl1] [(cellsR b_m 97 [vm1, vm2]), (rowsX u8S false vm2 vsm1 m.B none)] [Fact.sl RegionS vm1 m.L, Fact.sl SegS vl1 l]
   (fun rv own shr => rv = vI r ∧ own = [(cellsR b_m 97 [vm1, vm2]), (rowsX u8S false vm2 vsm1 m.B none)] ∧ shr = []) := by
 unfold ref_In05 at h
 refine Ctr.mk (args := [.pointer (some ⟨b_m, 0, none⟩), vl1]) Try.func60 rfl rfl (fun R0 w0 B => ?_)
 refine Tk_seq (Tk_region (Tops_step rfl (OpT_assign rfl rfl rfl rfl) ?_))
 refine Tops_nil (tZ [0, 1] [0, 1] [0, 1] rfl rfl rfl rfl ?_)
 refine Tk_seq (Tk_seq (Tk_region (Tops_step rfl (OpT_move rfl rfl rfl rfl) ?_)))
 refine Tops_step rfl (OpT_ptrNil rfl rfl rfl (.inl rfl) rfl rfl ptrF62) ?_
 refine Tops_nil (tZ [0, 1, 8] [0, 1] [0, 1] rfl rfl rfl rfl ?_)
 refine Tk_condF rfl ?_
 refine Tk_skip (Tk_seq (Tk_region (Tops_step rfl (OpT_move rfl rfl rfl rfl) ?_)))
 obtain ⟨check1, hx1, h⟩ := ob_e h
 refine Tops_exP rfl (OpT_call (w_ref_Check05 hx1) [] [1] rfl rfl rfl rfl rfl callee11 rfl rfl rfl rfl) ?_
 rintro _ ⟨_, _, _, ⟨rfl, rfl, rfl⟩, rfl⟩
 refine Tops_step rfl (OpT_assign rfl rfl rfl rfl) ?_
 refine Tops_nil (tZ [0, 1, 5] [0, 1] [0, 1] rfl rfl rfl rfl ?_)
 refine Tk_seq (Tk_seq (Tk_region (Tops_step rfl (OpT_assign rfl rfl rfl rfl) ?_)))
 refine Tops_nil (Tk_block (Tk_loopS (σ := Int × Int) [0, 1, 5, 6] [0, 1] [0, 1] (fun s => ⟨[(0, some (.pointer (some ⟨b_m, 0, none⟩))), (1, some (vl1)), (5, some (vI s.1)), (6, some (vI s.2))], [some (cellsR b_m 97 [vm1, vm2]), some (rowsX u8S false vm2 vsm1 m.B none)], [Fact.sl RegionS vm1 m.L, Fact.sl SegS vl1 l]⟩) (fun nf1 s => ref_In05L1 m l nf1 s.1 s.2 = some r) fuel (check1, (0 : Int)) h rfl rfl rfl rfl rfl (fun s h => by cases h) ?_))
 rintro nf1 ⟨e1, i1⟩ h
 replace h : ref_In05L1B m l (ref_In05L1 m l nf1) e1 i1 = some r := h
 unfold ref_In05L1B at h
 refine Tk_seq (Tk_seq (Tk_region (Tops_step rfl (OpT_move rfl rfl rfl rfl) ?_)))
 refine Tops_step rfl (OpT_move rfl rfl rfl rfl) ?_
 refine Tops_step rfl (OpT_lenS rfl rfl rfl rfl Try.underlying22 (i := 1) rfl) ?_
 refine Tops_step rfl (OpT_bin rfl rfl rfl rfl rfl (bin_lss_i (a := i1) (b := len l))) ?_
 refine Tops_step rfl (OpT_move rfl rfl rfl rfl) ?_
 rcases Bool.eq_false_or_eq_true (decide (i1 < (len l))) with hg1 | hg1
 ·replace h := br_t hg1 h
  refine Tops_yes rfl rfl (congrArg (fun b => some (Value.bool b)) hg1) (OpT_move rfl rfl rfl rfl) ?_
  rintro _ rfl
  refine Tops_yes rfl rfl (congrArg (fun b => some (Value.bool b)) hg1) (OpT_bin rfl rfl rfl rfl rfl (bin_eql_i (a := e1) (b := (0 : Int)))) ?_
  rintro _ rfl
  refine Tops_step rfl (OpT_pickT rfl rfl rfl (congrArg (fun b => some (Value.bool b)) hg1) rfl) ?_
  refine Tops_nil (tZ [0, 1, 5, 6, 18] [0, 1] [0, 1] rfl rfl rfl rfl ?_)
  rcases Bool.eq_false_or_eq_true (e1 == (0 : Int)) with hg2 | hg2
  ·replace h := br_t hg2 h
   refine Tk_condT (congrArg (fun b => some (Value.bool b)) hg2) ?_
   refine Tk_skip (Tk_seq (Tk_block (Tk_seq (Tk_drawT (by kernel_rfl) ?_))))
   refine TA_tb [0, 0, 0, 6, 14, 30, 0, 0, 192, 448, 960, 1984, 4095, 8191] (by kernel_rfl) fun htb => ?_
   refine aZ [0, 1, 5, 6] [0, 1] [0, 1] rfl rfl rfl rfl ?_
   obtain ⟨s1, hx2, h⟩ := ob_e h
   obtain ⟨s2, hx3, h⟩ := ob_e h
   refine TA_seg (lo := 0) (hi := 12) htb rfl rfl (by kernel_rfl) (fun c L a w => ∃ (p1 : Value), ∃ (p2 : Value), ∃ (p3 : Value), ∃ (p4 : Value), Sat c ⟨[(0, some (.pointer (some ⟨b_m, 0, none⟩))), (1, some (vl1)), (5, some (vI e1)), (6, some (vI i1)), (21, bif L 0 then some (.pointer (some ⟨b_m, 0, none⟩)) else none), (22, bif L 1 then some (vl1) else none), (23, bif L 2 then some (vI i1) else none), (24, bif L 3 then some (p1) else none), (25, bif L 4 then some (p2) else none), (26, bif L 5 then some (vU64 s1.At) else none), (27, bif L 6 then some (vl1) else none), (28, bif L 7 then some (vI i1) else none), (29, bif L 8 then some (p3) else none), (30, bif L 9 then some (p4) else none), (31, bif L 10 then some (vU32 s2.Len) else none), (32, bif L 11 then some (vU64 s2.Len.toUInt64) else none)], [(some (cellsR b_m 97 [vm1, vm2]) : Option Res), (some (rowsX u8S false vm2 vsm1 m.B none) : Option Res)], [Fact.sl RegionS vm1 m.L, Fact.sl SegS vl1 l, (bif L 3 then Fact.pt SegS p1 s1 else Fact.tt), (bif L 4 then Fact.pt u64S p2 s1.At else Fact.tt), (bif L 8 then Fact.pt SegS p3 s2 else Fact.tt), (bif L 9 then Fact.pt u32S p4 s2.Len else Fact.tt)]⟩ a w) [([], []), ([], [3, 4, 5]), ([], [3, 4, 5]), ([1, 2], [4, 5]), ([1, 2, 3], [5]), ([1, 2, 3, 4], []), ([], [8, 9, 10, 11]), ([], [8, 9, 10, 11]), ([6, 7], [9, 10, 11]), ([6, 7, 8], [10, 11]), ([6, 7, 8, 9], [11]), ([6, 7, 8, 9, 10], [])] rfl (by kernel_rfl) ?_ (steps_cons ?_ (steps_cons ?_ (steps_cons ?_ (steps_cons ?_ (steps_cons ?_ (steps_cons ?_ (steps_cons ?_ (steps_cons ?_ (steps_cons ?_ (steps_cons ?_ (steps_cons ?_ (steps_cons ?_ (steps_nil))))))))))))) ?_
   ·intro a w hs
    exact ⟨undef, undef, undef, undef, hs.startF [21, 22, 23, 24, 25, 26, 27, 28, 29, 30, 31, 32] [0, 1] [0, 1, 2, 3, 4, 5] rfl rfl rfl rfl⟩
   ·intro L a w hv K Q hK
    obtain ⟨p1, p2, p3, p4, hs⟩ := hv
    refine wpOp_go rfl rfl hs (OpT_move rfl rfl rfl rfl) ?_
    rintro _ rfl a' w' hs'
    exact hK a' w' ⟨p1, p2, p3, p4, hs'.putF (i := 4) rfl [0, 1] [0, 1, 2, 3, 4, 5] rfl rfl rfl rfl⟩
   ·intro L a w hv K Q hK
    obtain ⟨p1, p2, p3, p4, hs⟩ := hv
    refine wpOp_go rfl rfl hs (OpT_move rfl rfl rfl rfl) ?_
    rintro _ rfl a' w' hs'
    exact hK a' w' ⟨p1, p2, p3, p4, hs'.putF (i := 5) rfl [0, 1] [0, 1, 2, 3, 4, 5] rfl rfl rfl rfl⟩
   ·intro L a w hv K Q hK
    obtain ⟨p1, p2, p3, p4, hs⟩ := hv
    refine wpOp_go rfl rfl hs (OpT_move rfl rfl rfl rfl) ?_
    rintro _ rfl a' w' hs'
    exact hK a' w' ⟨p1, p2, p3, p4, hs'.putF (i := 6) rfl [0, 1] [0, 1, 2, 3, 4, 5] rfl rfl rfl rfl⟩
   ·intro L a w hv K Q hK
    obtain ⟨p1, p2, p3, p4, hs⟩ := hv
    refine wpOp_go rfl rfl hs (OpT_idxS rfl rfl rfl rfl rfl slF22 (i := 1) rfl hx2) ?_
    rintro _ ⟨p1', rfl⟩ a' w' hs'
    exact hK a' w' ⟨p1', p2, p3, p4, hs'.putF (i := 7) rfl [0, 1] [0, 1, 6, 3, 4, 5] rfl rfl rfl rfl⟩
   ·intro L a w hv K Q hK
    obtain ⟨p1, p2, p3, p4, hs⟩ := hv
    refine wpOp_go rfl rfl hs (OpT_fieldP (S' := u64S) (y := s1.At) rfl rfl rfl rfl fldF32x0 (i := 2) rfl (by intro h cs hr; subst hr; rfl)) ?_
    rintro _ ⟨p2', rfl⟩ a' w' hs'
    exact hK a' w' ⟨p1, p2', p3, p4, hs'.putF (i := 8) rfl [0, 1] [0, 1, 2, 6, 4, 5] rfl rfl rfl rfl⟩
   ·intro L a w hv K Q hK
    obtain ⟨p1, p2, p3, p4, hs⟩ := hv
    refine wpOp_go rfl rfl hs (OpT_loadP rfl rfl rfl rfl tyF29 (i := 3) rfl rfl) ?_
    rintro _ rfl a' w' hs'
    exact hK a' w' ⟨p1, p2, p3, p4, hs'.putF (i := 9) rfl [0, 1] [0, 1, 2, 3, 4, 5] rfl rfl rfl rfl⟩
   ·intro L a w hv K Q hK
    obtain ⟨p1, p2, p3, p4, hs⟩ := hv
    refine wpOp_go rfl rfl hs (OpT_move rfl rfl rfl rfl) ?_
    rintro _ rfl a' w' hs'
    exact hK a' w' ⟨p1, p2, p3, p4, hs'.putF (i := 10) rfl [0, 1] [0, 1, 2, 3, 4, 5] rfl rfl rfl rfl⟩
   ·intro L a w hv K Q hK
    obtain ⟨p1, p2, p3, p4, hs⟩ := hv
    refine wpOp_go rfl rfl hs (OpT_move rfl rfl rfl rfl) ?_
    rintro _ rfl a' w' hs'
    exact hK a' w' ⟨p1, p2, p3, p4, hs'.putF (i := 11) rfl [0, 1] [0, 1, 2, 3, 4, 5] rfl rfl rfl rfl⟩
   ·intro L a w hv K Q hK
    obtain ⟨p1, p2, p3, p4, hs⟩ := hv
    refine wpOp_go rfl rfl hs (OpT_idxS rfl rfl rfl rfl rfl slF22 (i := 1) rfl hx3) ?_
    rintro _ ⟨p3', rfl⟩ a' w' hs'
    exact hK a' w' ⟨p1, p2, p3', p4, hs'.putF (i := 12) rfl [0, 1] [0, 1, 2, 3, 6, 5] rfl rfl rfl rfl⟩
   ·intro L a w hv K Q hK
    obtain ⟨p1, p2, p3, p4, hs⟩ := hv
    refine wpOp_go rfl rfl hs (OpT_fieldP (S' := u32S) (y := s2.Len) rfl rfl rfl rfl fldF32x1 (i := 4) rfl (by intro h cs hr; subst hr; rfl)) ?_
    rintro _ ⟨p4', rfl⟩ a' w' hs'
    exact hK a' w' ⟨p1, p2, p3, p4', hs'.putF (i := 13) rfl [0, 1] [0, 1, 2, 3, 4, 6] rfl rfl rfl rfl⟩
   ·intro L a w hv K Q hK
    obtain ⟨p1, p2, p3, p4, hs⟩ := hv
    refine wpOp_go rfl rfl hs (OpT_loadP rfl rfl rfl rfl tyF30 (i := 5) rfl rfl) ?_
    rintro _ rfl a' w' hs'
    exact hK a' w' ⟨p1, p2, p3, p4, hs'.putF (i := 14) rfl [0, 1] [0, 1, 2, 3, 4, 5] rfl rfl rfl rfl⟩
   ·intro L a w hv K Q hK
    obtain ⟨p1, p2, p3, p4, hs⟩ := hv
    refine wpOp_go rfl rfl hs (OpT_cnv rfl rfl rfl rfl (cnv_u32_u64 (n := s2.Len) Try.underlying30 Try.underlying29)) ?_
    rintro _ rfl a' w' hs'
    exact hK a' w' ⟨p1, p2, p3, p4, hs'.putF (i := 15) rfl [0, 1] [0, 1, 2, 3, 4, 5] rfl rfl rfl rfl⟩
   ·intro L a w hL hv
    rw [allTrue hL] at hv
    obtain ⟨p1, p2, p3, p4, hs⟩ := hv
    refine gZ hs [0, 1, 5, 6, 21, 26, 32] [0, 1] [0, 1] rfl rfl rfl rfl ?_
    clear hs hL
    obtain ⟨has1, hx4, h⟩ := ob_e h
    refine TA_exP htb (by kernel_rfl) rfl rfl (OpT_callP [2, 3] (w_ref_Mem_Has02 hx4) [0, 1] [0] rfl rfl rfl rfl rfl callee57 rfl rfl rfl rfl rfl) ?_
    rintro _ ⟨_, _, _, ⟨rfl, rfl, rfl⟩, rfl⟩
    refine TA_step htb (by kernel_rfl) rfl rfl (OpT_not rfl rfl rfl rfl) ?_
    refine TA_end rfl ?_
    refine tZ [0, 1, 5, 6, 34] [0, 1] [0, 1] rfl rfl rfl rfl ?_
    rcases Bool.eq_false_or_eq_true ((!has1)) with hg3 | hg3
    ·replace h := br_t hg3 h
     refine Tk_condT (congrArg (fun b => some (Value.bool b)) hg3) ?_
     refine Tk_region (Tops_step rfl (OpT_assign rfl rfl rfl rfl) ?_)
     refine Tops_nil (tZ [0, 1, 5, 6] [0, 1] [0, 1] rfl rfl rfl rfl ?_)
     refine Tk_blk (Tk_region (Tops_step rfl (OpT_move rfl rfl rfl rfl) ?_))
     refine Tops_step rfl (OpT_bin rfl rfl rfl rfl rfl (bin_add_i (a := i1) (b := (1 : Int)))) ?_
     refine Tops_step rfl (OpT_assign rfl rfl rfl rfl) ?_
     refine Tops_nil (tZ [0, 1, 5, 6] [0, 1] [0, 1] rfl rfl rfl rfl ?_)
     exact Tk_backS ((5 : Int), wi (i1 + (1 : Int))) h [0, 1, 5, 6] [0, 1] [0, 1] rfl rfl rfl rfl rfl
    ·replace h := br_f hg3 h
     refine Tk_condF (congrArg (fun b => some (Value.bool b)) hg3) ?_
     refine Tk_skip (Tk_blk (Tk_region (Tops_step rfl (OpT_move rfl rfl rfl rfl) ?_)))
     refine Tops_step rfl (OpT_bin rfl rfl rfl rfl rfl (bin_add_i (a := i1) (b := (1 : Int)))) ?_
     refine Tops_step rfl (OpT_assign rfl rfl rfl rfl) ?_
     refine Tops_nil (tZ [0, 1, 5, 6] [0, 1] [0, 1] rfl rfl rfl rfl ?_)
     exact Tk_backS (e1, wi (i1 + (1 : Int))) h [0, 1, 5, 6] [0, 1] [0, 1] rfl rfl rfl rfl rfl
  ·replace h := br_f hg2 h
   refine Tk_condF (congrArg (fun b => some (Value.bool b)) hg2) ?_
   refine Tk_exit _ rfl ?_
   refine Tk_seq (Tk_region (Tops_step rfl (OpT_move rfl rfl rfl rfl) ?_))
   refine Tops_step rfl (OpT_assign rfl rfl rfl rfl) ?_
   refine Tops_nil (tZ [4] [0, 1] [0] rfl rfl rfl rfl ?_)
   obtain rfl := Option.some.inj h
   exact Tk_retV rfl rfl (resA (vs := [vI e1]) rfl ⟨rfl, trivial⟩) [0, 1] [] rfl rfl rfl ⟨rfl, rfl, rfl⟩
 ·replace h := br_f hg1 h
  refine Tops_no rfl rfl (congrArg (fun b => some (Value.bool b)) hg1) rfl rfl ?_
  refine Tops_no rfl rfl (congrArg (fun b => some (Value.bool b)) hg1) rfl rfl ?_
  refine Tops_step rfl (OpT_pickF rfl rfl rfl (congrArg (fun b => some (Value.bool b)) hg1) rfl) ?_
  refine Tops_nil (tZ [0, 1, 5, 6, 18] [0, 1] [0, 1] rfl rfl rfl rfl ?_)
  refine Tk_condF rfl ?_
  refine Tk_exit _ rfl ?_
  refine Tk_seq (Tk_region (Tops_step rfl (OpT_move rfl rfl rfl rfl) ?_))
  refine Tops_step rfl (OpT_assign rfl rfl rfl rfl) ?_
  refine Tops_nil (tZ [4] [0, 1] [0] rfl rfl rfl rfl ?_)
  obtain rfl := Option.some.inj h
  exact Tk_retV rfl rfl (resA (vs := [vI e1]) rfl ⟨rfl, trivial⟩) [0, 1] [] rfl rfl rfl ⟨rfl, rfl, rfl⟩

set_option maxRecDepth 100000 in
set_option maxHeartbeats 4000000 in
theorem w_ref_Total05 {l : List Seg} {vl1 : Value} {r : (UInt64 × UInt64)} (h : ref_Total05 l = some r) :
  Ctr Try.prog 61 #[vl1] [] [Fact.sl SegS vl1 l]
   (fun rv own shr => rv = .tuple #[vU64 r.1, vU64 r.2] ∧ own = [] ∧ shr = []) := by
 unfold ref_Total05 at h
 refine Ctr.mk (args := [vl1]) Try.func61 rfl rfl (fun R0 w0 B => ?_)
 refine Tk_seq (Tk_region (Tops_step rfl (OpT_assign rfl rfl rfl rfl) ?_))
 refine Tops_step rfl (OpT_assign rfl rfl rfl rfl) ?_
 refine Tops_nil (tZ [0] [] [0] rfl rfl rfl rfl ?_)
 refine Tk_seq (Tk_region (Tops_step rfl (OpT_assign rfl rfl rfl rfl) ?_))
 refine Tops_step rfl (OpT_assign rfl rfl rfl rfl) ?_
 refine Tops_nil (Tk_seq (Tk_seq (Tk_region (Tops_step rfl (OpT_assign rfl rfl rfl rfl) ?_))))
 refine Tops_nil (Tk_block (Tk_loopS (σ := UInt64 × UInt64 × Int) [0, 4, 5, 6] [] [0] (fun s => ⟨[(0, some (vl1)), (4, some (vU64 s.1)), (5, some (vU64 s.2.1)), (6, some (vI s.2.2))], [], [Fact.sl SegS vl1 l]⟩) (fun nf1 s => ref_Total05L1 l nf1 s.1 s.2.1 s.2.2 = some r) fuel ((0 : UInt64), (0 : UInt64), (0 : Int)) h rfl rfl rfl rfl rfl (fun s h => by cases h) ?_))
 rintro nf1 ⟨read1, write1, i1⟩ h
 replace h : ref_Total05L1B l (ref_Total05L1 l nf1) read1 write1 i1 = some r := h
 unfold ref_Total05L1B at h
 refine Tk_seq (Tk_seq (Tk_region (Tops_step rfl (OpT_move rfl rfl rfl rfl) ?_)))
 refine Tops_step rfl (OpT_move rfl rfl rfl rfl) ?_
 refine Tops_step rfl (OpT_lenS rfl rfl rfl rfl Try.underlying22 (i := 0) rfl) ?_
 refine Tops_step rfl (OpT_bin rfl rfl rfl rfl rfl (bin_lss_i (a := i1) (b := len l))) ?_
 refine Tops_step rfl (OpT_move rfl rfl rfl rfl) ?_
 rcases Bool.eq_false_or_eq_true (decide (i1 < (len l))) with hg1 | hg1
 ·replace h := br_t hg1 h
  refine Tops_yes rfl rfl (congrArg (fun b => some (Value.bool b)) hg1) (OpT_move rfl rfl rfl rfl) ?_
  rintro _ rfl
  obtain ⟨check1, hx1, h⟩ := ob_e h
  refine Tops_yes rfl rfl (congrArg (fun b => some (Value.bool b)) hg1) (OpT_call (w_ref_Check05 hx1) [] [0] rfl rfl rfl rfl rfl callee11 rfl rfl rfl rfl) ?_
  rintro _ ⟨_, _, _, ⟨rfl, rfl, rfl⟩, rfl⟩
  refine Tops_yes rfl rfl (congrArg (fun b => some (Value.bool b)) hg1) (OpT_bin rfl rfl rfl rfl rfl (bin_eql_i (a := check1) (b := (0 : Int)))) ?_
  rintro _ rfl
  refine Tops_step rfl (OpT_pickT rfl rfl rfl (congrArg (fun b => some (Value.bool b)) hg1) rfl) ?_
  refine Tops_nil (tZ [0, 4, 5, 6, 15] [] [0] rfl rfl rfl rfl ?_)
  rcases Bool.eq_false_or_eq_true (check1 == (0 : Int)) with hg2 | hg2
  ·replace h := br_t hg2 h
   refine Tk_condT (congrArg (fun b => some (Value.bool b)) hg2) ?_
   refine Tk_skip (Tk_seq (Tk_join (α := UInt64 × UInt64) (fun s => ⟨[(0, some (vl1)), (4, some (vU64 s.1)), (5, some (vU64 s.2)), (6, some (vI i1))], [], [Fact.sl SegS vl1 l]⟩) (fun s => ref_Total05J2 i1 (ref_Total05L1 l nf1) s.1 s.2 = some r) ?_ ?_))
   ·rintro ⟨read2, write2⟩ h
    replace h : ref_Total05J2 i1 (ref_Total05L1 l nf1) read2 write2 = some r := h
    unfold ref_Total05J2 at h
    refine Tk_region (Tops_step rfl (OpT_move rfl rfl rfl rfl) ?_)
    refine Tops_step rfl (OpT_bin rfl rfl rfl rfl rfl (bin_add_i (a := i1) (b := (1 : Int)))) ?_
    refine Tops_step rfl (OpT_assign rfl rfl rfl rfl) ?_
    refine Tops_nil (tZ [0, 4, 5, 6] [] [0] rfl rfl rfl rfl ?_)
    exact Tk_backS (read2, write2, wi (i1 + (1 : Int))) h [0, 4, 5, 6] [] [0] rfl rfl rfl rfl rfl
   ·intro HJ1
    refine Tk_block (Tk_seq (Tk_region (Tops_step rfl (OpT_move rfl rfl rfl rfl) ?_)))
    refine Tops_step rfl (OpT_move rfl rfl rfl rfl) ?_
    obtain ⟨s1, hx2, h⟩ := ob_e h
    refine Tops_ex rfl (OpT_idxS rfl rfl rfl rfl rfl slF22 (i := 0) rfl hx2) fun p1 => ?_
    refine Tops_ex rfl (OpT_fieldP (S' := bS) (y := s1.Write) rfl rfl rfl rfl fldF32x2 (i := 1) rfl (by intro h cs hr; subst hr; rfl)) fun p2 => ?_
    refine Tops_step rfl (OpT_loadP rfl rfl rfl rfl tyF4 (i := 2) rfl rfl) ?_
    refine Tops_nil (tZ [0, 4, 5, 6, 22] [] [0] rfl rfl rfl rfl ?_)
    refine Tk_join (α := UInt64 × UInt64) (fun s => ⟨[(0, some (vl1)), (4, some (vU64 s.1)), (5, some (vU64 s.2)), (6, some (vI i1))], [], [Fact.sl SegS vl1 l]⟩) (fun s => ref_Total05J3 i1 (ref_Total05L1 l nf1) s.1 s.2 = some r) ?_ ?_
    ·rintro ⟨read3, write3⟩ h
     replace h : ref_Total05J3 i1 (ref_Total05L1 l nf1) read3 write3 = some r := h
     unfold ref_Total05J3 at h
     refine Tk_blk ?_
     exact Tk_jmpS (HJ1 (read3, write3) h) [0, 4, 5, 6] [] [0] rfl rfl rfl rfl
    ·intro HJ2
     rcases Bool.eq_false_or_eq_true (s1.Write) with hg3 | hg3
     ·replace h := br_t hg3 h
      refine Tk_condT (congrArg (fun b => some (Value.bool b)) hg3) ?_
      refine Tk_region (Tops_step rfl (OpT_move rfl rfl rfl rfl) ?_)
      refine Tops_step rfl (OpT_move rfl rfl rfl rfl) ?_
      refine Tops_step rfl (OpT_move rfl rfl rfl rfl) ?_
      obtain ⟨s2, hx3, h⟩ := ob_e h
      refine Tops_ex rfl (OpT_idxS rfl rfl rfl rfl rfl slF22 (i := 0) rfl hx3) fun p3 => ?_
      refine Tops_ex rfl (OpT_fieldP (S' := u32S) (y := s2.Len) rfl rfl rfl rfl fldF32x1 (i := 1) rfl (by intro h cs hr; subst hr; rfl)) fun p4 => ?_
      refine Tops_step rfl (OpT_loadP rfl rfl rfl rfl tyF30 (i := 2) rfl rfl) ?_
      refine Tops_step rfl (OpT_cnv rfl rfl rfl rfl (cnv_u32_u64 (n := s2.Len) Try.underlying30 Try.underlying29)) ?_
      refine Tops_step rfl (OpT_bin rfl rfl rfl rfl rfl (bin_add_u64 (a := write1) (b := s2.Len.toUInt64))) ?_
      refine Tops_step rfl (OpT_assign rfl rfl rfl rfl) ?_
      refine Tops_nil (tZ [0, 4, 5, 6] [] [0] rfl rfl rfl rfl ?_)
      exact Tk_jmpS (HJ2 (read1, write1 + s2.Len.toUInt64) h) [0, 4, 5, 6] [] [0] rfl rfl rfl rfl
     ·replace h := br_f hg3 h
      refine Tk_condF (congrArg (fun b => some (Value.bool b)) hg3) ?_
      refine Tk_region (Tops_step rfl (OpT_move rfl rfl rfl rfl) ?_)
      refine Tops_step rfl (OpT_move rfl rfl rfl rfl) ?_
      refine Tops_step rfl (OpT_move rfl rfl rfl rfl) ?_
      obtain ⟨s3, hx4, h⟩ := ob_e h
      refine Tops_ex rfl (OpT_idxS rfl rfl rfl rfl rfl slF22 (i := 0) rfl hx4) fun p5 => ?_
      refine Tops_ex rfl (OpT_fieldP (S' := u32S) (y := s3.Len) rfl rfl rfl rfl fldF32x1 (i := 1) rfl (by intro h cs hr; subst hr; rfl)) fun p6 => ?_
      refine Tops_step rfl (OpT_loadP rfl rfl rfl rfl tyF30 (i := 2) rfl rfl) ?_
      refine Tops_step rfl (OpT_cnv rfl rfl rfl rfl (cnv_u32_u64 (n := s3.Len) Try.underlying30 Try.underlying29)) ?_
      refine Tops_step rfl (OpT_bin rfl rfl rfl rfl rfl (bin_add_u64 (a := read1) (b := s3.Len.toUInt64))) ?_
      refine Tops_step rfl (OpT_assign rfl rfl rfl rfl) ?_
      refine Tops_nil (tZ [0, 4, 5, 6] [] [0] rfl rfl rfl rfl ?_)
      exact Tk_jmpS (HJ2 (read1 + s3.Len.toUInt64, write1) h) [0, 4, 5, 6] [] [0] rfl rfl rfl rfl
  ·replace h := br_f hg2 h
   refine Tk_condF (congrArg (fun b => some (Value.bool b)) hg2) ?_
   refine Tk_exit _ rfl ?_
   refine Tk_seq (Tk_region (Tops_step rfl (OpT_move rfl rfl rfl rfl) ?_))
   refine Tops_step rfl (OpT_move rfl rfl rfl rfl) ?_
   refine Tops_step rfl (OpT_assign rfl rfl rfl rfl) ?_
   refine Tops_step rfl (OpT_assign rfl rfl rfl rfl) ?_
   refine Tops_nil (tZ [2, 3] [] [] rfl rfl rfl rfl ?_)
   obtain rfl := Option.some.inj h
   exact Tk_retV rfl rfl (resA (vs := [vU64 read1, vU64 write1]) rfl ⟨rfl, rfl, trivial⟩) [] [] rfl rfl rfl ⟨rfl, rfl, rfl⟩
 ·replace h := br_f hg1 h
  refine Tops_no rfl rfl (congrArg (fun b => some (Value.bool b)) hg1) rfl rfl ?_
  refine Tops_no rfl rfl (congrArg (fun b => some (Value.bool b)) hg1) rfl rfl ?_
  refine Tops_no rfl rfl (congrArg (fun b => some (Value.bool b)) hg1) rfl rfl ?_
  refine Tops_step rfl (OpT_pickF rfl rfl rfl (congrArg (fun b => some (Value.bool b)) hg1) rfl) ?_
  refine Tops_nil (tZ [0, 4, 5, 6, 15] [] [0] rfl rfl rfl rfl ?_)
  refine Tk_condF rfl ?_
  refine Tk_exit _ rfl ?_
  refine Tk_seq (Tk_region (Tops_step rfl (OpT_move rfl rfl rfl rfl) ?_))
  refine Tops_step rfl (OpT_move rfl rfl rfl rfl) ?_
  refine Tops_step rfl (OpT_assign rfl rfl rfl rfl) ?_
  refine Tops_step rfl (OpT_assign rfl rfl rfl rfl) ?_
  refine Tops_nil (tZ [2, 3] [] [] rfl rfl rfl rfl ?_)
  obtain rfl := Option.some.inj h
  exact Tk_retV rfl rfl (resA (vs := [vU64 read1, vU64 write1]) rfl ⟨rfl, rfl, trivial⟩) [] [] rfl rfl rfl ⟨rfl, rfl, rfl⟩

set_option maxRecDepth 100000 in
set_option maxHeartbeats 4000000 in
theorem w_ref_Mem_Read02 {m : dumbwaiterref02_Mem} {atp1 : UInt64} {np2 : Int} {b_m : Nat} {vm1 : Value} {vm2 : Value} {vsm1 : List Value} {r : ((List UInt8) × Int)} (h : ref_Mem_Read02 m atp1 np2 = some r) :
  Ctr Try.prog 62 #[.pointer (some ⟨b_m, 0, none⟩), vU64 atp1, vI np2] [(cellsR b_m 97 [vm1, vm2]), (rowsX u8S false vm2 vsm1 m.B none)] [Fact.sl RegionS vm1 m.L]
   (fun rv own shr => ∃ (w1 : Value), rv = .tuple #[w1, vI r.2] ∧ own = [(cellsR b_m 97 [vm1, vm2]), (rowsX u8S false vm2 vsm1 m.B none), (rowS u8S w1 r.1)] ∧ shr = []) := by
 unfold ref_Mem_Read02 at h
 refine Ctr.mk (args := [.pointer (some ⟨b_m, 0, none⟩), vU64 atp1, vI np2]) Try.func62 rfl rfl (fun R0 w0 B => ?_)
 refine Tk_seq (Tk_region (Tops_step rfl (OpT_assign rfl rfl rfl rfl) ?_))
 refine Tops_step rfl (OpT_assign rfl rfl rfl rfl) ?_
 refine Tops_nil (tZ [0, 1, 2] [0, 1] [0] rfl rfl rfl rfl ?_)
 refine Tk_seq (Tk_seq (Tk_region (Tops_step rfl (OpT_move rfl rfl rfl rfl) ?_)))
 refine Tops_step rfl (OpT_bin rfl rfl rfl rfl rfl (bin_lss_i (a := np2) (b := (0 : Int)))) ?_
 refine Tops_nil (tZ [0, 1, 2, 11] [0, 1] [0] rfl rfl rfl rfl ?_)
 rcases Bool.eq_false_or_eq_true (decide (np2 < (0 : Int))) with hg1 | hg1
 ·replace h := br_t hg1 h
  refine Tk_condT (congrArg (fun b => some (Value.bool b)) hg1) ?_
  refine Tk_seq (Tk_region (Tops_step rfl (OpT_assign rfl rfl rfl rfl) ?_))
  refine Tops_step rfl (OpT_assign rfl rfl rfl rfl) ?_
  refine Tops_nil (tZ [6, 7] [0, 1] [0] rfl rfl rfl rfl ?_)
  refine Tk_nilrow u8S ?_
  obtain rfl := Option.some.inj h
  exact Tk_retV rfl rfl (resA (vs := [.slice none 0 0, vI (2 : Int)]) rfl ⟨rfl, rfl, trivial⟩) [0, 1, 2] [] rfl rfl rfl ⟨(.slice none 0 0), rfl, rfl, rfl⟩
 ·replace h := br_f hg1 h
  refine Tk_condF (congrArg (fun b => some (Value.bool b)) hg1) ?_
  refine Tk_skip (Tk_seq (Tk_seq (Tk_region (Tops_step rfl (OpT_move rfl rfl rfl rfl) ?_))))
  refine Tops_step rfl (OpT_bin rfl rfl rfl rfl rfl (bin_eql_i (a := np2) (b := (0 : Int)))) ?_
  refine Tops_nil (tZ [0, 1, 2, 13] [0, 1] [0] rfl rfl rfl rfl ?_)
  rcases Bool.eq_false_or_eq_true (np2 == (0 : Int)) with hg2 | hg2
  ·replace h := br_t hg2 h
   refine Tk_condT (congrArg (fun b => some (Value.bool b)) hg2) ?_
   refine Tk_seq (Tk_region (Tops_step rfl (OpT_assign rfl rfl rfl rfl) ?_))
   refine Tops_step rfl (OpT_assign rfl rfl rfl rfl) ?_
   refine Tops_nil (tZ [6, 7] [0, 1] [0] rfl rfl rfl rfl ?_)
   refine Tk_nilrow u8S ?_
   obtain rfl := Option.some.inj h
   exact Tk_retV rfl rfl (resA (vs := [.slice none 0 0, vI (0 : Int)]) rfl ⟨rfl, rfl, trivial⟩) [0, 1, 2] [] rfl rfl rfl ⟨(.slice none 0 0), rfl, rfl, rfl⟩
  ·replace h := br_f hg2 h
   refine Tk_condF (congrArg (fun b => some (Value.bool b)) hg2) ?_
   refine Tk_skip (Tk_seq (Tk_region (Tops_step rfl (OpT_move rfl rfl rfl rfl) ?_)))
   refine Tops_step rfl (OpT_move rfl rfl rfl rfl) ?_
   refine Tops_step rfl (OpT_move rfl rfl rfl rfl) ?_
   refine Tops_step rfl (OpT_cnv rfl rfl rfl rfl (cnv_i_u64 (n := np2) Try.underlying3 Try.underlying29)) ?_
   obtain ⟨find1, hx1, h⟩ := ob_e h
   refine Tops_exP rfl (OpT_callP [2, 3] (w_ref_Mem_find02 hx1) [0, 1] [0] rfl rfl rfl rfl rfl callee56 rfl rfl rfl rfl rfl) ?_
   rintro _ ⟨_, _, _, ⟨rfl, rfl, rfl⟩, rfl⟩
   refine Tops_step rfl (OpT_move rfl rfl rfl rfl) ?_
   refine Tops_step rfl (OpT_extract rfl rfl rfl rfl rfl) ?_
   refine Tops_step rfl (OpT_extract rfl rfl rfl rfl rfl) ?_
   refine Tops_step rfl (OpT_assign rfl rfl rfl rfl) ?_
   refine Tops_step rfl (OpT_assign rfl rfl rfl rfl) ?_
   refine Tops_nil (tZ [0, 2, 8, 9] [0, 1] [0] rfl rfl rfl rfl ?_)
   refine Tk_seq (Tk_seq (Tk_region (Tops_step rfl (OpT_move rfl rfl rfl rfl) ?_)))
   refine Tops_step rfl (OpT_bin rfl rfl rfl rfl rfl (bin_lss_i (a := find1.1) (b := (0 : Int)))) ?_
   refine Tops_nil (tZ [0, 2, 8, 9, 23] [0, 1] [0] rfl rfl rfl rfl ?_)
   rcases Bool.eq_false_or_eq_true (decide (find1.1 < (0 : Int))) with hg3 | hg3
   ·replace h := br_t hg3 h
    refine Tk_condT (congrArg (fun b => some (Value.bool b)) hg3) ?_
    refine Tk_seq (Tk_region (Tops_step rfl (OpT_assign rfl rfl rfl rfl) ?_))
    refine Tops_step rfl (OpT_assign rfl rfl rfl rfl) ?_
    refine Tops_nil (tZ [6, 7] [0, 1] [0] rfl rfl rfl rfl ?_)
    refine Tk_nilrow u8S ?_
    obtain rfl := Option.some.inj h
    exact Tk_retV rfl rfl (resA (vs := [.slice none 0 0, vI (5 : Int)]) rfl ⟨rfl, rfl, trivial⟩) [0, 1, 2] [] rfl rfl rfl ⟨(.slice none 0 0), rfl, rfl, rfl⟩
   ·replace h := br_f hg3 h
    refine Tk_condF (congrArg (fun b => some (Value.bool b)) hg3) ?_
    refine Tk_skip (Tk_seq (Tk_region (Tops_ex rfl (OpT_buildSlice (S := u8S) (xs := ([] : List UInt8)) (css := []) (cs := []) (e := 5) rfl rfl rfl rfl (bldF slF35 (by decide) (by kernel_rfl)) rfl rfl rfl rfl (rel_plainD (S := u8S) (xs := ([] : List UInt8)) (css := []) rfl rfl)) fun v1 => ?_)))
    refine Tops_step rfl (OpT_move rfl rfl rfl rfl) ?_
    refine Tops_step rfl (OpT_nilCheckP rfl rfl rfl rfl) ?_
    refine Tops_step rfl (OpT_fieldC rfl rfl rfl rfl fldF97x1) ?_
    refine Tops_step rfl (OpT_loadC rfl rfl rfl rfl tyF81 (i := 0) rfl rfl) ?_
    refine Tops_step rfl (OpT_move rfl rfl rfl rfl) ?_
    obtain ⟨row1, hx2, h⟩ := ob_e h
    refine Tops_step rfl (OpT_idxRows rfl rfl rfl rfl rfl slF81 (i := 1) rfl hx2) ?_
    refine Tops_vs (vs_focus (i := 1) (j := find1.1) rfl hx2) ?_
    refine Tops_step rfl (OpT_loadRow (m := find1.1) rfl rfl rfl rfl tyF35 (i := 1) rfl) ?_
    refine Tops_step rfl (OpT_move rfl rfl rfl rfl) ?_
    refine Tops_step rfl (OpT_move rfl rfl rfl rfl) ?_
    refine Tops_step rfl (OpT_move rfl rfl rfl rfl) ?_
    refine Tops_step rfl (OpT_bin rfl rfl rfl rfl rfl (bin_add_i (a := find1.2) (b := np2))) ?_
    obtain ⟨hc1, h⟩ := chk_e h
    refine Tops_step rfl (OpT_subLH (S := u8S) (l := find1.2) (m := wi (find1.2 + np2)) rfl rfl rfl rfl rfl rfl slF35 (i := 3) rfl hc1) ?_
    obtain ⟨hc2, h⟩ := chk_e h
    refine Tops_ex rfl (OpT_nil0 (OpT_appendBs (S := u8S) (l := find1.2) (m := (wi (find1.2 + np2))) rfl rfl rfl rfl rfl rfl slF35 (i := 2) (j := 3) rfl rfl hc1 hc2)) fun v2 => ?_
    refine Tops_step rfl (OpT_assign rfl rfl rfl rfl) ?_
    refine Tops_step rfl (OpT_assign rfl rfl rfl rfl) ?_
    refine Tops_nil (tZ [6, 7] [0, 1, 2, 3] [0] rfl rfl rfl rfl ?_)
    refine Tk_vs (vs_unfocus0 (i := 1) (q := 3) rfl rfl rfl hx2) ?_
    obtain rfl := Option.some.inj h
    exact Tk_retV rfl rfl (resA (vs := [v2, vI (0 : Int)]) rfl ⟨rfl, rfl, trivial⟩) [0, 1, 2] [] rfl rfl rfl ⟨v2, rfl, rfl, rfl⟩

set_option maxRecDepth 100000 in
set_option maxHeartbeats 4000000 in
theorem w_ref_Gather05 {m : dumbwaiterref02_Mem} {l : List Seg} {b_m : Nat} {vm1 : Value} {vm2 : Value} {vsm1 : List Value} {vl1 : Value} {r : ((List UInt8) × Int)} (h : ref_Gather05 m l = some r) :
  Ctr Try.prog 64 #[.pointer (some ⟨b_m, 0, none⟩), vl1] [(cellsR b_m 97 [vm1, vm2]), (rowsX u8S false vm2 vsm1 m.B none)] [Fact.sl RegionS vm1 m.L, Fact.sl SegS vl1 l]
   (fun rv own shr => ∃ (w1 : Value), rv = .tuple #[w1, vI r.2] ∧ own = [(cellsR b_m 97 [vm1, vm2]), (rowsX u8S false vm2 vsm1 m.B none), (rowS u8S w1 r.1)] ∧ shr = []) := by
 unfold ref_Gather05 at h
 refine Ctr.mk (args := [.pointer (some ⟨b_m, 0, none⟩), vl1]) Try.func64 rfl rfl (fun R0 w0 B => ?_)
 refine Tk_seq (Tk_region (Tops_step rfl (OpT_assign rfl rfl rfl rfl) ?_))
 refine Tops_step rfl (OpT_assign rfl rfl rfl rfl) ?_
 refine Tops_nil (tZ [0, 1] [0, 1] [0, 1] rfl rfl rfl rfl ?_)
 refine Tk_seq (Tk_region (Tops_step rfl (OpT_move rfl rfl rfl rfl) ?_))
 refine Tops_step rfl (OpT_move rfl rfl rfl rfl) ?_
 obtain ⟨in1, hx1, h⟩ := ob_e h
 refine Tops_exP rfl (OpT_callP [2, 3] (w_ref_In05 hx1) [0, 1] [0, 1] rfl rfl rfl rfl rfl callee60 rfl rfl rfl rfl rfl) ?_
 rintro _ ⟨_, _, _, ⟨rfl, rfl, rfl⟩, rfl⟩
 refine Tops_step rfl (OpT_assign rfl rfl rfl rfl) ?_
 refine Tops_nil (tZ [0, 1, 6] [0, 1] [0, 1] rfl rfl rfl rfl ?_)
 refine Tk_seq (Tk_seq (Tk_region (Tops_step rfl (OpT_move rfl rfl rfl rfl) ?_)))
 refine Tops_step rfl (OpT_bin rfl rfl rfl rfl rfl (bin_neq_i (a := in1) (b := (0 : Int)))) ?_
 refine Tops_nil (tZ [0, 1, 6, 15] [0, 1] [0, 1] rfl rfl rfl rfl ?_)
 rcases Bool.eq_false_or_eq_true (in1 != (0 : Int)) with hg1 | hg1
 ·replace h := br_t hg1 h
  refine Tk_condT (congrArg (fun b => some (Value.bool b)) hg1) ?_
  refine Tk_seq (Tk_region (Tops_step rfl (OpT_move rfl rfl rfl rfl) ?_))
  refine Tops_step rfl (OpT_assign rfl rfl rfl rfl) ?_
  refine Tops_step rfl (OpT_assign rfl rfl rfl rfl) ?_
  refine Tops_nil (tZ [4, 5] [0, 1] [0] rfl rfl rfl rfl ?_)
  refine Tk_nilrow u8S ?_
  obtain rfl := Option.some.inj h
  exact Tk_retV rfl rfl (resA (vs := [.slice none 0 0, vI in1]) rfl ⟨rfl, rfl, trivial⟩) [0, 1, 2] [] rfl rfl rfl ⟨(.slice none 0 0), rfl, rfl, rfl⟩
 ·replace h := br_f hg1 h
  refine Tk_condF (congrArg (fun b => some (Value.bool b)) hg1) ?_
  refine Tk_skip (Tk_seq (Tk_region (Tops_step rfl (OpT_assign rfl rfl rfl rfl) ?_)))
  refine Tops_nil (tZ [0, 1, 7] [0, 1] [0, 1] rfl rfl rfl rfl ?_)
  refine Tk_seq (Tk_seq (Tk_region (Tops_step rfl (OpT_assign rfl rfl rfl rfl) ?_)))
  refine Tops_nil (Tk_block (Tk_nilrow u8S ?_))
  refine Tk_loopS (σ := (List UInt8) × Int × Value) [0, 1, 7, 8] [0, 1, 2] [0, 1] (fun s => ⟨[(0, some (.pointer (some ⟨b_m, 0, none⟩))), (1, some (vl1)), (7, some (s.2.2)), (8, some (vI s.2.1))], [some (cellsR b_m 97 [vm1, vm2]), some (rowsX u8S false vm2 vsm1 m.B none), some (rowS u8S s.2.2 s.1)], [Fact.sl RegionS vm1 m.L, Fact.sl SegS vl1 l]⟩) (fun nf1 s => ref_Gather05L1 m l nf1 s.1 s.2.1 = some r) fuel ([], (0 : Int), (.slice none 0 0)) h rfl rfl rfl rfl rfl (fun s h => by cases h) ?_
  rintro nf1 ⟨out1, i1, v1⟩ h
  replace h : ref_Gather05L1B m l (ref_Gather05L1 m l nf1) out1 i1 = some r := h
  unfold ref_Gather05L1B at h
  refine Tk_seq (Tk_seq (Tk_region (Tops_step rfl (OpT_move rfl rfl rfl rfl) ?_)))
  refine Tops_step rfl (OpT_move rfl rfl rfl rfl) ?_
  refine Tops_step rfl (OpT_lenS rfl rfl rfl rfl Try.underlying22 (i := 1) rfl) ?_
  refine Tops_step rfl (OpT_bin rfl rfl rfl rfl rfl (bin_lss_i (a := i1) (b := len l))) ?_
  refine Tops_nil (tZ [0, 1, 7, 8, 20] [0, 1, 2] [0, 1] rfl rfl rfl rfl ?_)
  rcases Bool.eq_false_or_eq_true (decide (i1 < (len l))) with hg2 | hg2
  ·replace h := br_t hg2 h
   refine Tk_condT (congrArg (fun b => some (Value.bool b)) hg2) ?_
   refine Tk_skip (Tk_seq (Tk_join (α := (List UInt8) × Value) (fun s => ⟨[(0, some (.pointer (some ⟨b_m, 0, none⟩))), (1, some (vl1)), (7, some (s.2)), (8, some (vI i1))], [some (cellsR b_m 97 [vm1, vm2]), some (rowsX u8S false vm2 vsm1 m.B none), some (rowS u8S s.2 s.1)], [Fact.sl RegionS vm1 m.L, Fact.sl SegS vl1 l]⟩) (fun s => ref_Gather05J2 i1 (ref_Gather05L1 m l nf1) s.1 = some r) ?_ ?_))
   ·rintro ⟨out2, v2⟩ h
    replace h : ref_Gather05J2 i1 (ref_Gather05L1 m l nf1) out2 = some r := h
    unfold ref_Gather05J2 at h
    refine Tk_region (Tops_step rfl (OpT_move rfl rfl rfl rfl) ?_)
    refine Tops_step rfl (OpT_bin rfl rfl rfl rfl rfl (bin_add_i (a := i1) (b := (1 : Int)))) ?_
    refine Tops_step rfl (OpT_assign rfl rfl rfl rfl) ?_
    refine Tops_nil (tZ [0, 1, 7, 8] [0, 1, 2] [0, 1] rfl rfl rfl rfl ?_)
    exact Tk_backS (out2, wi (i1 + (1 : Int)), v2) h [0, 1, 7, 8] [0, 1, 2] [0, 1] rfl rfl rfl rfl rfl
   ·intro HJ1
    refine Tk_block (Tk_seq (Tk_region (Tops_step rfl (OpT_move rfl rfl rfl rfl) ?_)))
    refine Tops_step rfl (OpT_move rfl rfl rfl rfl) ?_
    obtain ⟨s1, hx2, h⟩ := ob_e h
    refine Tops_ex rfl (OpT_idxS rfl rfl rfl rfl rfl slF22 (i := 1) rfl hx2) fun p1 => ?_
    refine Tops_ex rfl (OpT_fieldP (S' := bS) (y := s1.Write) rfl rfl rfl rfl fldF32x2 (i := 2) rfl (by intro h cs hr; subst hr; rfl)) fun p2 => ?_
    refine Tops_step rfl (OpT_loadP rfl rfl rfl rfl tyF4 (i := 3) rfl rfl) ?_
    refine Tops_step rfl (OpT_not rfl rfl rfl rfl) ?_
    refine Tops_nil (tZ [0, 1, 7, 8, 28] [0, 1, 2] [0, 1] rfl rfl rfl rfl ?_)
    refine Tk_join (α := (List UInt8) × Value) (fun s => ⟨[(0, some (.pointer (some ⟨b_m, 0, none⟩))), (1, some (vl1)), (7, some (s.2)), (8, some (vI i1))], [some (cellsR b_m 97 [vm1, vm2]), some (rowsX u8S false vm2 vsm1 m.B none), some (rowS u8S s.2 s.1)], [Fact.sl RegionS vm1 m.L, Fact.sl SegS vl1 l]⟩) (fun s => ref_Gather05J3 i1 (ref_Gather05L1 m l nf1) s.1 = some r) ?_ ?_
    ·rintro ⟨out3, v3⟩ h
     replace h : ref_Gather05J3 i1 (ref_Gather05L1 m l nf1) out3 = some r := h
     unfold ref_Gather05J3 at h
     refine Tk_blk ?_
     exact Tk_jmpS (HJ1 (out3, v3) h) [0, 1, 7, 8] [0, 1, 2] [0, 1] rfl rfl rfl rfl
    ·intro HJ2
     rcases Bool.eq_false_or_eq_true ((!s1.Write)) with hg3 | hg3
     ·replace h := br_t hg3 h
      refine Tk_condT (congrArg (fun b => some (Value.bool b)) hg3) ?_
      refine Tk_seq (Tk_drawT (by kernel_rfl) ?_)
      refine TA_tb [0, 0, 0, 6, 14, 30, 0, 0, 192, 448, 960, 1984, 4095, 8191, 16383, 16383, 32767, 131071] (by kernel_rfl) fun htb => ?_
      refine aZ [0, 1, 7, 8] [0, 1, 2] [0, 1] rfl rfl rfl rfl ?_
      obtain ⟨s2, hx3, h⟩ := ob_e h
      obtain ⟨s3, hx4, h⟩ := ob_e h
      refine TA_seg (lo := 0) (hi := 12) htb rfl rfl (by kernel_rfl) (fun c L a w => ∃ (p3 : Value), ∃ (p4 : Value), ∃ (p5 : Value), ∃ (p6 : Value), Sat c ⟨[(0, some (.pointer (some ⟨b_m, 0, none⟩))), (1, some (vl1)), (7, some (v1)), (8, some (vI i1)), (30, bif L 0 then some (.pointer (some ⟨b_m, 0, none⟩)) else none), (31, bif L 1 then some (vl1) else none), (32, bif L 2 then some (vI i1) else none), (33, bif L 3 then some (p3) else none), (34, bif L 4 then some (p4) else none), (35, bif L 5 then some (vU64 s2.At) else none), (36, bif L 6 then some (vl1) else none), (37, bif L 7 then some (vI i1) else none), (38, bif L 8 then some (p5) else none), (39, bif L 9 then some (p6) else none), (40, bif L 10 then some (vU32 s3.Len) else none), (41, bif L 11 then some (vI (i32 s3.Len)) else none)], [(some (cellsR b_m 97 [vm1, vm2]) : Option Res), (some (rowsX u8S false vm2 vsm1 m.B none) : Option Res), (some (rowS u8S v1 out1) : Option Res)], [Fact.sl RegionS vm1 m.L, Fact.sl SegS vl1 l, (bif L 3 then Fact.pt SegS p3 s2 else Fact.tt), (bif L 4 then Fact.pt u64S p4 s2.At else Fact.tt), (bif L 8 then Fact.pt SegS p5 s3 else Fact.tt), (bif L 9 then Fact.pt u32S p6 s3.Len else Fact.tt)]⟩ a w) [([], []), ([], [3, 4, 5]), ([], [3, 4, 5]), ([1, 2], [4, 5]), ([1, 2, 3], [5]), ([1, 2, 3, 4], []), ([], [8, 9, 10, 11]), ([], [8, 9, 10, 11]), ([6, 7], [9, 10, 11]), ([6, 7, 8], [10, 11]), ([6, 7, 8, 9], [11]), ([6, 7, 8, 9, 10], [])] rfl (by kernel_rfl) ?_ (steps_cons ?_ (steps_cons ?_ (steps_cons ?_ (steps_cons ?_ (steps_cons ?_ (steps_cons ?_ (steps_cons ?_ (steps_cons ?_ (steps_cons ?_ (steps_cons ?_ (steps_cons ?_ (steps_cons ?_ (steps_nil))))))))))))) ?_
      ·intro a w hs
       exact ⟨undef, undef, undef, undef, hs.startF [30, 31, 32, 33, 34, 35, 36, 37, 38, 39, 40, 41] [0, 1, 2] [0, 1, 2, 3, 4, 5] rfl rfl rfl rfl⟩
      ·intro L a w hv K Q hK
       obtain ⟨p3, p4, p5, p6, hs⟩ := hv
       refine wpOp_go rfl rfl hs (OpT_move rfl rfl rfl rfl) ?_
       rintro _ rfl a' w' hs'
       exact hK a' w' ⟨p3, p4, p5, p6, hs'.putF (i := 4) rfl [0, 1, 2] [0, 1, 2, 3, 4, 5] rfl rfl rfl rfl⟩
      ·intro L a w hv K Q hK
       obtain ⟨p3, p4, p5, p6, hs⟩ := hv
       refine wpOp_go rfl rfl hs (OpT_move rfl rfl rfl rfl) ?_
       rintro _ rfl a' w' hs'
       exact hK a' w' ⟨p3, p4, p5, p6, hs'.putF (i := 5) rfl [0, 1, 2] [0, 1, 2, 3, 4, 5] rfl rfl rfl rfl⟩
      ·intro L a w hv K Q hK
       obtain ⟨p3, p4, p5, p6, hs⟩ := hv
       refine wpOp_go rfl rfl hs (OpT_move rfl rfl rfl rfl) ?_
       rintro _ rfl a' w' hs'
       exact hK a' w' ⟨p3, p4, p5, p6, hs'.putF (i := 6) rfl [0, 1, 2] [0, 1, 2, 3, 4, 5] rfl rfl rfl rfl⟩
      ·intro L a w hv K Q hK
       obtain ⟨p3, p4, p5, p6, hs⟩ := hv
       refine wpOp_go rfl rfl hs (OpT_idxS rfl rfl rfl rfl rfl slF22 (i := 1) rfl hx3) ?_
       rintro _ ⟨p3', rfl⟩ a' w' hs'
       exact hK a' w' ⟨p3', p4, p5, p6, hs'.putF (i := 7) rfl [0, 1, 2] [0, 1, 6, 3, 4, 5] rfl rfl rfl rfl⟩
      ·intro L a w hv K Q hK
       obtain ⟨p3, p4, p5, p6, hs⟩ := hv
       refine wpOp_go rfl rfl hs (OpT_fieldP (S' := u64S) (y := s2.At) rfl rfl rfl rfl fldF32x0 (i := 2) rfl (by intro h cs hr; subst hr; rfl)) ?_
       rintro _ ⟨p4', rfl⟩ a' w' hs'
       exact hK a' w' ⟨p3, p4', p5, p6, hs'.putF (i := 8) rfl [0, 1, 2] [0, 1, 2, 6, 4, 5] rfl rfl rfl rfl⟩
      ·intro L a w hv K Q hK
       obtain ⟨p3, p4, p5, p6, hs⟩ := hv
       refine wpOp_go rfl rfl hs (OpT_loadP rfl rfl rfl rfl tyF29 (i := 3) rfl rfl) ?_
       rintro _ rfl a' w' hs'
       exact hK a' w' ⟨p3, p4, p5, p6, hs'.putF (i := 9) rfl [0, 1, 2] [0, 1, 2, 3, 4, 5] rfl rfl rfl rfl⟩
      ·intro L a w hv K Q hK
       obtain ⟨p3, p4, p5, p6, hs⟩ := hv
       refine wpOp_go rfl rfl hs (OpT_move rfl rfl rfl rfl) ?_
       rintro _ rfl a' w' hs'
       exact hK a' w' ⟨p3, p4, p5, p6, hs'.putF (i := 10) rfl [0, 1, 2] [0, 1, 2, 3, 4, 5] rfl rfl rfl rfl⟩
      ·intro L a w hv K Q hK
       obtain ⟨p3, p4, p5, p6, hs⟩ := hv
       refine wpOp_go rfl rfl hs (OpT_move rfl rfl rfl rfl) ?_
       rintro _ rfl a' w' hs'
       exact hK a' w' ⟨p3, p4, p5, p6, hs'.putF (i := 11) rfl [0, 1, 2] [0, 1, 2, 3, 4, 5] rfl rfl rfl rfl⟩
      ·intro L a w hv K Q hK
       obtain ⟨p3, p4, p5, p6, hs⟩ := hv
       refine wpOp_go rfl rfl hs (OpT_idxS rfl rfl rfl rfl rfl slF22 (i := 1) rfl hx4) ?_
       rintro _ ⟨p5', rfl⟩ a' w' hs'
       exact hK a' w' ⟨p3, p4, p5', p6, hs'.putF (i := 12) rfl [0, 1, 2] [0, 1, 2, 3, 6, 5] rfl rfl rfl rfl⟩
      ·intro L a w hv K Q hK
       obtain ⟨p3, p4, p5, p6, hs⟩ := hv
       refine wpOp_go rfl rfl hs (OpT_fieldP (S' := u32S) (y := s3.Len) rfl rfl rfl rfl fldF32x1 (i := 4) rfl (by intro h cs hr; subst hr; rfl)) ?_
       rintro _ ⟨p6', rfl⟩ a' w' hs'
       exact hK a' w' ⟨p3, p4, p5, p6', hs'.putF (i := 13) rfl [0, 1, 2] [0, 1, 2, 3, 4, 6] rfl rfl rfl rfl⟩
      ·intro L a w hv K Q hK
       obtain ⟨p3, p4, p5, p6, hs⟩ := hv
       refine wpOp_go rfl rfl hs (OpT_loadP rfl rfl rfl rfl tyF30 (i := 5) rfl rfl) ?_
       rintro _ rfl a' w' hs'
       exact hK a' w' ⟨p3, p4, p5, p6, hs'.putF (i := 14) rfl [0, 1, 2] [0, 1, 2, 3, 4, 5] rfl rfl rfl rfl⟩
      ·intro L a w hv K Q hK
       obtain ⟨p3, p4, p5, p6, hs⟩ := hv
       refine wpOp_go rfl rfl hs (OpT_cnv rfl rfl rfl rfl (cnv_u32_i (n := s3.Len) Try.underlying30 Try.underlying3)) ?_
       rintro _ rfl a' w' hs'
       exact hK a' w' ⟨p3, p4, p5, p6, hs'.putF (i := 15) rfl [0, 1, 2] [0, 1, 2, 3, 4, 5] rfl rfl rfl rfl⟩
      ·intro L a w hL hv
       rw [allTrue hL] at hv
       obtain ⟨p3, p4, p5, p6, hs⟩ := hv
       refine gZ hs [0, 1, 7, 8, 30, 35, 41] [0, 1, 2] [0, 1] rfl rfl rfl rfl ?_
       clear hs hL
       obtain ⟨read1, hx5, h⟩ := ob_e h
       refine TA_exP htb (by kernel_rfl) rfl rfl (OpT_callP [3, 4, 2, 5] (w_ref_Mem_Read02 hx5) [0, 1] [0] rfl rfl rfl rfl rfl callee62 rfl rfl rfl rfl rfl) ?_
       rintro _ ⟨_, _, _, ⟨v4, rfl, rfl, rfl⟩, rfl⟩
       refine TA_step htb (by kernel_rfl) rfl rfl (OpT_move rfl rfl rfl rfl) ?_
       refine aZ [0, 1, 7, 8, 29] [0, 1, 2, 3] [0, 1] rfl rfl rfl rfl ?_
       refine TA_seg (lo := 14) (hi := 17) htb rfl rfl (by kernel_rfl) (fun c L a w => Sat c ⟨[(0, some (.pointer (some ⟨b_m, 0, none⟩))), (1, some (vl1)), (7, some (v1)), (8, some (vI i1)), (29, some (.tuple #[v4, vI read1.2])), (43, bif L 14 then some (v4) else none), (44, bif L 15 then some (vI read1.2) else none), (9, bif L 16 then some (v4) else none)], [(some (cellsR b_m 97 [vm1, vm2]) : Option Res), (some (rowsX u8S false vm2 vsm1 m.B none) : Option Res), (some (rowS u8S v1 out1) : Option Res), (some (rowS u8S v4 read1.1) : Option Res)], [Fact.sl RegionS vm1 m.L, Fact.sl SegS vl1 l]⟩ a w) [([], [16]), ([], []), ([14], [])] rfl (by kernel_rfl) ?_ (steps_cons ?_ (steps_cons ?_ (steps_cons ?_ (steps_nil)))) ?_
       ·intro a w hs
        exact hs.startF [43, 44, 9] [0, 1, 2, 3] [0, 1] rfl rfl rfl rfl
       ·intro L a w hv K Q hK
        have hs := hv
        refine wpOp_go rfl rfl hs (OpT_extract rfl rfl rfl rfl rfl) ?_
        rintro _ rfl a' w' hs'
        exact hK a' w' (hs'.putF (i := 5) rfl [0, 1, 2, 3] [0, 1] rfl rfl rfl rfl)
       ·intro L a w hv K Q hK
        have hs := hv
        refine wpOp_go rfl rfl hs (OpT_extract rfl rfl rfl rfl rfl) ?_
        rintro _ rfl a' w' hs'
        exact hK a' w' (hs'.putF (i := 6) rfl [0, 1, 2, 3] [0, 1] rfl rfl rfl rfl)
       ·intro L a w hv K Q hK
        have hs := hv
        refine wpOp_go rfl rfl hs (OpT_assign rfl rfl rfl rfl) ?_
        rintro _ rfl a' w' hs'
        exact hK a' w' (hs'.putF (i := 7) rfl [0, 1, 2, 3] [0, 1] rfl rfl rfl rfl)
       ·intro L a w hL hv
        rw [allTrue hL] at hv
        have hs := hv
        refine gZ hs [0, 1, 7, 8, 44, 9] [0, 1, 2, 3] [0, 1] rfl rfl rfl rfl ?_
        clear hs hL
        refine TA_step htb (by kernel_rfl) rfl rfl (OpT_assign rfl rfl rfl rfl) ?_
        refine TA_end rfl ?_
        refine tZ [0, 1, 7, 8, 9] [0, 1, 2, 3] [0, 1] rfl rfl rfl rfl ?_
        refine Tk_region (Tops_step rfl (OpT_move rfl rfl rfl rfl) ?_)
        refine Tops_step rfl (OpT_move rfl rfl rfl rfl) ?_
        obtain ⟨hc1, h⟩ := chk_e h
        refine Tops_ex rfl (OpT_appendB (S := u8S) rfl rfl rfl rfl rfl rfl slF35 (i := 2) (j := 3) rfl rfl hc1) fun v5 => ?_
        refine Tops_step rfl (OpT_assign rfl rfl rfl rfl) ?_
        refine Tops_nil (tZ [0, 1, 7, 8] [0, 1, 2] [0, 1] rfl rfl rfl rfl ?_)
        exact Tk_jmpS (HJ2 (out1 ++ read1.1, v5) h) [0, 1, 7, 8] [0, 1, 2] [0, 1] rfl rfl rfl rfl
     ·replace h := br_f hg3 h
      refine Tk_condF (congrArg (fun b => some (Value.bool b)) hg3) ?_
      refine Tk_skip ?_
      exact Tk_jmpS (HJ2 (out1, v1) h) [0, 1, 7, 8] [0, 1, 2] [0, 1] rfl rfl rfl rfl
  ·replace h := br_f hg2 h
   refine Tk_condF (congrArg (fun b => some (Value.bool b)) hg2) ?_
   refine Tk_exit _ rfl ?_
   refine Tk_seq (Tk_region (Tops_step rfl (OpT_move rfl rfl rfl rfl) ?_))
   refine Tops_step rfl (OpT_assign rfl rfl rfl rfl) ?_
   refine Tops_step rfl (OpT_assign rfl rfl rfl rfl) ?_
   refine Tops_nil (tZ [4, 5] [0, 1, 2] [0] rfl rfl rfl rfl ?_)
   obtain rfl := Option.some.inj h
   exact Tk_retV rfl rfl (resA (vs := [v1, vI (0 : Int)]) rfl ⟨rfl, rfl, trivial⟩) [0, 1, 2] [] rfl rfl rfl ⟨v1, rfl, rfl, rfl⟩

set_option maxRecDepth 100000 in
set_option maxHeartbeats 4000000 in
theorem w_ref_number21 {b : List UInt8} {vb1 : Value} {r : UInt64} (h : ref_number21 b = some r) :
  Ctr Try.prog 78 #[vb1] [] [Fact.sl u8S vb1 b]
   (fun rv own shr => rv = vU64 r ∧ own = [] ∧ shr = []) := by
 unfold ref_number21 at h
 refine Ctr.mk (args := [vb1]) Try.func78 rfl rfl (fun R0 w0 B => ?_)
 refine Tk_seq (Tk_region (Tops_step rfl (OpT_assign rfl rfl rfl rfl) ?_))
 refine Tops_nil (tZ [0] [] [0] rfl rfl rfl rfl ?_)
 refine Tk_seq (Tk_region (Tops_step rfl (OpT_assign rfl rfl rfl rfl) ?_))
 refine Tops_nil (Tk_seq (Tk_seq (Tk_region (Tops_step rfl (OpT_move rfl rfl rfl rfl) ?_))))
 refine Tops_step rfl (OpT_lenS rfl rfl rfl rfl Try.underlying35 (i := 0) rfl) ?_
 refine Tops_step rfl (OpT_bin rfl rfl rfl rfl rfl (bin_sub_i (a := len b) (b := (1 : Int)))) ?_
 refine Tops_step rfl (OpT_assign rfl rfl rfl rfl) ?_
 refine Tops_nil (tZ [0, 3, 4] [] [0] rfl rfl rfl rfl ?_)
 refine Tk_block (Tk_loopS (σ := UInt64 × Int) [0, 3, 4] [] [0] (fun s => ⟨[(0, some (vb1)), (3, some (vU64 s.1)), (4, some (vI s.2))], [], [Fact.sl u8S vb1 b]⟩) (fun nf1 s => ref_number21L1 b nf1 s.1 s.2 = some r) fuel ((0 : UInt64), wi ((len b) - (1 : Int))) h rfl rfl rfl rfl rfl (fun s h => by cases h) ?_)
 rintro nf1 ⟨x1, i1⟩ h
 replace h : ref_number21L1B b (ref_number21L1 b nf1) x1 i1 = some r := h
 unfold ref_number21L1B at h
 refine Tk_seq (Tk_seq (Tk_region (Tops_step rfl (OpT_move rfl rfl rfl rfl) ?_)))
 refine Tops_step rfl (OpT_bin rfl rfl rfl rfl rfl (bin_geq_i (a := i1) (b := (0 : Int)))) ?_
 refine Tops_nil (tZ [0, 3, 4, 9] [] [0] rfl rfl rfl rfl ?_)
 rcases Bool.eq_false_or_eq_true (decide (i1 ≥ (0 : Int))) with hg1 | hg1
 ·replace h := br_t hg1 h
  refine Tk_condT (congrArg (fun b => some (Value.bool b)) hg1) ?_
  refine Tk_skip (Tk_seq (Tk_block (Tk_region (Tops_step rfl (OpT_move rfl rfl rfl rfl) ?_))))
  refine Tops_step rfl (OpT_bin rfl rfl rfl rfl rfl (bin_shl_u64_u64 (a := x1) (n := (8 : UInt64)))) ?_
  refine Tops_step rfl (OpT_move rfl rfl rfl rfl) ?_
  refine Tops_step rfl (OpT_move rfl rfl rfl rfl) ?_
  obtain ⟨y1, hx1, h⟩ := ob_e h
  refine Tops_ex rfl (OpT_idxS rfl rfl rfl rfl rfl slF35 (i := 0) rfl hx1) fun p1 => ?_
  refine Tops_step rfl (OpT_loadP rfl rfl rfl rfl tyF5 (i := 1) rfl rfl) ?_
  refine Tops_step rfl (OpT_cnv rfl rfl rfl rfl (cnv_u8_u64 (n := y1) Try.underlying5 Try.underlying29)) ?_
  refine Tops_step rfl (OpT_bin rfl rfl rfl rfl rfl (bin_or_u64 (a := shl64 x1 ((8 : UInt64).toNat)) (b := y1.toUInt64))) ?_
  refine Tops_step rfl (OpT_assign rfl rfl rfl rfl) ?_
  refine Tops_nil (tZ [0, 3, 4] [] [0] rfl rfl rfl rfl ?_)
  refine Tk_blk (Tk_region (Tops_step rfl (OpT_move rfl rfl rfl rfl) ?_))
  refine Tops_step rfl (OpT_bin rfl rfl rfl rfl rfl (bin_sub_i (a := i1) (b := (1 : Int)))) ?_
  refine Tops_step rfl (OpT_assign rfl rfl rfl rfl) ?_
  refine Tops_nil (tZ [0, 3, 4] [] [0] rfl rfl rfl rfl ?_)
  exact Tk_backS ((shl64 x1 ((8 : UInt64).toNat)) ||| y1.toUInt64, wi (i1 - (1 : Int))) h [0, 3, 4] [] [0] rfl rfl rfl rfl rfl
 ·replace h := br_f hg1 h
  refine Tk_condF (congrArg (fun b => some (Value.bool b)) hg1) ?_
  refine Tk_exit _ rfl ?_
  refine Tk_seq (Tk_region (Tops_step rfl (OpT_move rfl rfl rfl rfl) ?_))
  refine Tops_step rfl (OpT_assign rfl rfl rfl rfl) ?_
  refine Tops_nil (tZ [2] [] [] rfl rfl rfl rfl ?_)
  obtain rfl := Option.some.inj h
  exact Tk_retV rfl rfl (resA (vs := [vU64 x1]) rfl ⟨rfl, trivial⟩) [] [] rfl rfl rfl ⟨rfl, rfl, rfl⟩

set_option maxRecDepth 100000 in
set_option maxHeartbeats 4000000 in
theorem w_ref_Read21 {b : List UInt8} {vb1 : Value} {r : (Req × Int)} (h : ref_Read21 b = some r) :
  Ctr Try.prog 65 #[vb1] [] [Fact.sl u8S vb1 b]
   (fun rv own shr => ∃ (w1 : Value), ∃ (w2 : Value), rv = .tuple #[.agg #[vU32 r.1.Type_, vU64 r.1.Sector, w1, vI r.1.Room, w2], vI r.2] ∧ own = [(rowS u8S w1 r.1.Data), (rowS RangeS w2 r.1.Ranges)] ∧ shr = []) := by
 unfold ref_Read21 at h
 refine Ctr.mk (args := [vb1]) Try.func65 rfl rfl (fun R0 w0 B => ?_)
 refine Tk_seq (Tk_region (Tops_ex rfl (OpT_alloc rfl rfl rfl tyZ38) fun b1 => ?_))
 refine Tops_step rfl (OpT_assign rfl rfl rfl rfl) ?_
 refine Tops_nil (tZ [0, 2] [0] [0] rfl rfl rfl rfl ?_)
 refine Tk_seq (Tk_seq (Tk_region (Tops_step rfl (OpT_move rfl rfl rfl rfl) ?_)))
 refine Tops_step rfl (OpT_lenS rfl rfl rfl rfl Try.underlying35 (i := 0) rfl) ?_
 refine Tops_step rfl (OpT_bin rfl rfl rfl rfl rfl (bin_lss_i (a := len b) (b := (16 : Int)))) ?_
 refine Tops_nil (tZ [0, 2, 6] [0] [0] rfl rfl rfl rfl ?_)
 rcases Bool.eq_false_or_eq_true (decide ((len b) < (16 : Int))) with hg1 | hg1
 ·replace h := br_t hg1 h
  refine Tk_condT (congrArg (fun b => some (Value.bool b)) hg1) ?_
  refine Tk_seq (Tk_region (Tops_step rfl (OpT_build (v := .agg #[vU32 (0 : UInt32), vU64 (0 : UInt64), .slice none 0 0, vI (0 : Int), .slice none 0 0]) rfl rfl rfl rfl (bldV (by kernel_rfl))) ?_))
  refine Tops_step rfl (OpT_storeC (cs' := [vU32 (0 : UInt32), vU64 (0 : UInt64), .slice none 0 0, vI (0 : Int), .slice none 0 0]) rfl rfl rfl rfl tyF38 (i := 0) rfl rfl rfl (one_of rfl) rfl) ?_
  refine Tops_step rfl (OpT_assign rfl rfl rfl rfl) ?_
  refine Tops_nil (tZ [2, 3] [0] [] rfl rfl rfl rfl ?_)
  refine Tk_nilrow u8S ?_
  refine Tk_nilrow RangeS ?_
  obtain rfl := Option.some.inj h
  exact Tk_retV rfl rfl (resA (vs := [.agg #[vU32 (0 : UInt32), vU64 (0 : UInt64), .slice none 0 0, vI (0 : Int), .slice none 0 0], vI (2 : Int)]) rfl ⟨⟨_, 0, _, _, _, rfl, rfl, .inl ⟨tyF38, rfl, rfl⟩⟩, rfl, trivial⟩) [1, 2] [] rfl rfl rfl ⟨(.slice none 0 0), (.slice none 0 0), rfl, rfl, rfl⟩
 ·replace h := br_f hg1 h
  refine Tk_condF (congrArg (fun b => some (Value.bool b)) hg1) ?_
  refine Tk_skip (Tk_seq (Tk_drawT (by kernel_rfl) ?_))
  refine TA_tb [0, 1, 3, 7, 0, 16, 55, 0, 0, 256, 1015, 2047, 4095, 8191] (by kernel_rfl) fun htb => ?_
  refine aZ [0, 2] [0] [0] rfl rfl rfl rfl ?_
  obtain ⟨hc1, h⟩ := chk_e h
  obtain ⟨number1, hx1, h⟩ := ob_e h
  obtain ⟨hc2, h⟩ := chk_e h
  obtain ⟨number2, hx2, h⟩ := ob_e h
  obtain ⟨hc3, h⟩ := chk_e h
  obtain ⟨hc4, h⟩ := chk_e h
  refine TA_seg (lo := 0) (hi := 11) htb rfl rfl (by kernel_rfl) (fun c L a w => ∃ (v1 : Value), ∃ (v2 : Value), ∃ (v3 : Value), ∃ (v4 : Value), ∃ (v5 : Value), Sat c ⟨[(0, some (vb1)), (2, some (.pointer (some ⟨b1, 0, none⟩))), (8, bif L 0 then some (vb1) else none), (9, bif L 1 then some (v1) else none), (10, bif L 2 then some (vU64 number1) else none), (11, bif L 3 then some (vU32 number1.toUInt32) else none), (12, bif L 4 then some (vb1) else none), (13, bif L 5 then some (v2) else none), (14, bif L 6 then some (vU64 number2) else none), (15, bif L 7 then some (v3) else none), (16, bif L 8 then some (vb1) else none), (17, bif L 9 then some (v4) else none), (18, bif L 10 then some (v5) else none)], [(some (cellsR b1 38 [vU32 (0 : UInt32), vU64 (0 : UInt64), .slice none 0 0, vI (0 : Int), .slice none 0 0]) : Option Res), (bif L 10 then some (rowS u8S v5 (sub b (16 : Int) (len b))) else bif L 7 then some (rowS u8S v3 ([] : List UInt8)) else none : Option Res)], [Fact.sl u8S vb1 b, (bif L 1 then Fact.sl u8S v1 (sub b (0 : Int) (4 : Int)) else Fact.tt), (bif L 5 then Fact.sl u8S v2 (sub b (8 : Int) (16 : Int)) else Fact.tt), (bif L 9 then Fact.sl u8S v4 (sub b (16 : Int) (len b)) else Fact.tt)]⟩ a w) [([], [1, 2, 3, 6, 10]), ([0], [2, 3, 6, 10]), ([0, 1], [3, 6, 10]), ([0, 1, 2], []), ([], [5, 6, 10]), ([4], [6, 10]), ([0, 1, 2, 4, 5], [10]), ([], [10]), ([], [9, 10]), ([8], [10]), ([0, 1, 2, 4, 5, 6, 7, 8, 9], [])] rfl (by kernel_rfl) ?_ (steps_cons ?_ (steps_cons ?_ (steps_cons ?_ (steps_cons ?_ (steps_cons ?_ (steps_cons ?_ (steps_cons ?_ (steps_cons ?_ (steps_cons ?_ (steps_cons ?_ (steps_cons ?_ (steps_nil)))))))))))) ?_
  ·intro a w hs
   exact ⟨undef, undef, undef, undef, undef, hs.startF [8, 9, 10, 11, 12, 13, 14, 15, 16, 17, 18] [0, 1] [0, 1, 2, 3] rfl rfl rfl rfl⟩
  ·intro L a w hv K Q hK
   obtain ⟨v1, v2, v3, v4, v5, hs⟩ := hv
   refine wpOp_go rfl rfl hs (OpT_move rfl rfl rfl rfl) ?_
   rintro _ rfl a' w' hs'
   exact hK a' w' ⟨v1, v2, v3, v4, v5, hs'.putF (i := 2) rfl [0, 1] [0, 1, 2, 3] rfl rfl rfl rfl⟩
  ·intro L a w hv K Q hK
   obtain ⟨v1, v2, v3, v4, v5, hs⟩ := hv
   refine wpOp_go rfl rfl hs (OpT_sliceH (m := (4 : Int)) rfl rfl rfl rfl rfl slF35 (i := 0) rfl hc1) ?_
   rintro _ ⟨v1', rfl⟩ a' w' hs'
   exact hK a' w' ⟨v1', v2, v3, v4, v5, hs'.putF (i := 3) rfl [0, 1] [0, 4, 2, 3] rfl rfl rfl rfl⟩
  ·intro L a w hv K Q hK
   obtain ⟨v1, v2, v3, v4, v5, hs⟩ := hv
   refine wpOp_go rfl rfl hs (OpT_call (w_ref_number21 hx1) [] [1] rfl rfl rfl rfl rfl callee78 rfl rfl rfl rfl) ?_
   rintro _ ⟨_, _, _, ⟨rfl, rfl, rfl⟩, rfl⟩ a' w' hs'
   exact hK a' w' ⟨v1, v2, v3, v4, v5, hs'.putF (i := 4) rfl [0, 1] [0, 1, 2, 3] rfl rfl rfl rfl⟩
  ·intro L a w hv K Q hK
   obtain ⟨v1, v2, v3, v4, v5, hs⟩ := hv
   refine wpOp_go rfl rfl hs (OpT_cnv rfl rfl rfl rfl (cnv_u64_u32 (n := number1) Try.underlying29 Try.underlying30)) ?_
   rintro _ rfl a' w' hs'
   exact hK a' w' ⟨v1, v2, v3, v4, v5, hs'.putF (i := 5) rfl [0, 1] [0, 1, 2, 3] rfl rfl rfl rfl⟩
  ·intro L a w hv K Q hK
   obtain ⟨v1, v2, v3, v4, v5, hs⟩ := hv
   refine wpOp_go rfl rfl hs (OpT_move rfl rfl rfl rfl) ?_
   rintro _ rfl a' w' hs'
   exact hK a' w' ⟨v1, v2, v3, v4, v5, hs'.putF (i := 6) rfl [0, 1] [0, 1, 2, 3] rfl rfl rfl rfl⟩
  ·intro L a w hv K Q hK
   obtain ⟨v1, v2, v3, v4, v5, hs⟩ := hv
   refine wpOp_go rfl rfl hs (OpT_sliceLH (l := (8 : Int)) (m := (16 : Int)) rfl rfl rfl rfl rfl rfl slF35 (i := 0) rfl hc2) ?_
   rintro _ ⟨v2', rfl⟩ a' w' hs'
   exact hK a' w' ⟨v1, v2', v3, v4, v5, hs'.putF (i := 7) rfl [0, 1] [0, 1, 4, 3] rfl rfl rfl rfl⟩
  ·intro L a w hv K Q hK
   obtain ⟨v1, v2, v3, v4, v5, hs⟩ := hv
   refine wpOp_go rfl rfl hs (OpT_call (w_ref_number21 hx2) [] [2] rfl rfl rfl rfl rfl callee78 rfl rfl rfl rfl) ?_
   rintro _ ⟨_, _, _, ⟨rfl, rfl, rfl⟩, rfl⟩ a' w' hs'
   exact hK a' w' ⟨v1, v2, v3, v4, v5, hs'.putF (i := 8) rfl [0, 1] [0, 1, 2, 3] rfl rfl rfl rfl⟩
  ·intro L a w hv K Q hK
   obtain ⟨v1, v2, v3, v4, v5, hs⟩ := hv
   refine wpOp_go rfl rfl hs (OpT_buildSlice (S := u8S) (xs := ([] : List UInt8)) (css := []) (cs := []) (e := 5) rfl rfl rfl rfl (bldF slF35 (by decide) (by kernel_rfl)) rfl rfl rfl rfl (rel_plainD (S := u8S) (xs := ([] : List UInt8)) (css := []) rfl rfl)) ?_
   rintro _ ⟨v3', rfl⟩ a' w' hs'
   exact hK a' w' ⟨v1, v2, v3', v4, v5, hs'.putF (i := 9) rfl [0, 2] [0, 1, 2, 3] rfl rfl rfl rfl⟩
  ·intro L a w hv K Q hK
   obtain ⟨v1, v2, v3, v4, v5, hs⟩ := hv
   refine wpOp_go rfl rfl hs (OpT_move rfl rfl rfl rfl) ?_
   rintro _ rfl a' w' hs'
   exact hK a' w' ⟨v1, v2, v3, v4, v5, hs'.putF (i := 10) rfl [0, 1] [0, 1, 2, 3] rfl rfl rfl rfl⟩
  ·intro L a w hv K Q hK
   obtain ⟨v1, v2, v3, v4, v5, hs⟩ := hv
   refine wpOp_go rfl rfl hs (OpT_sliceL (l := (16 : Int)) rfl rfl rfl rfl rfl slF35 (i := 0) rfl hc3) ?_
   rintro _ ⟨v4', rfl⟩ a' w' hs'
   exact hK a' w' ⟨v1, v2, v3, v4', v5, hs'.putF (i := 11) rfl [0, 1] [0, 1, 2, 4] rfl rfl rfl rfl⟩
  ·intro L a w hv K Q hK
   obtain ⟨v1, v2, v3, v4, v5, hs⟩ := hv
   refine wpOp_go rfl rfl hs (OpT_nil0 (OpT_append rfl rfl rfl rfl rfl slF35 (i := 1) (j := 3) rfl rfl hc4)) ?_
   rintro _ ⟨v5', rfl⟩ a' w' hs'
   exact hK a' w' ⟨v1, v2, v3, v4, v5', hs'.putF (i := 12) rfl [0, 1] [0, 1, 2, 3] rfl rfl rfl rfl⟩
  ·intro L a w hL hv
   rw [allTrue hL] at hv
   obtain ⟨v1, v2, v3, v4, v5, hs⟩ := hv
   refine gZ hs [2, 11, 14, 18] [0, 1] [] rfl rfl rfl rfl ?_
   clear hs hL
   refine TA_step htb (by kernel_rfl) rfl rfl (OpT_build1 (fun z0 => [(0, vU32 number1.toUInt32), (1, vU64 number2), (2, z0)]) (fun z0 => [vU32 number1.toUInt32, vU64 number2, z0, vI (0 : Int), .slice none 0 0]) rfl rfl rfl rfl (is_row (i := 1) rfl) (by intros; kernel_rfl)) ?_
   refine TA_step htb (by kernel_rfl) rfl rfl (OpT_storeA1 (fun z0 => [vU32 number1.toUInt32, vU64 number2, z0, vI (0 : Int), .slice none 0 0]) (cs' := [vU32 number1.toUInt32, vU64 number2, v5, vI (0 : Int), .slice none 0 0]) rfl rfl rfl rfl tyF38 (i := 0) rfl (is_row (i := 1) rfl) (fun _ _ _ => rfl) rfl rfl rfl) ?_
   refine TA_step htb (by kernel_rfl) rfl rfl (OpT_assign rfl rfl rfl rfl) ?_
   refine TA_end rfl ?_
   refine tZ [2, 3] [0, 1] [] rfl rfl rfl rfl ?_
   refine Tk_nilrow RangeS ?_
   obtain rfl := Option.some.inj h
   exact Tk_retV rfl rfl (resA (vs := [.agg #[vU32 number1.toUInt32, vU64 number2, v5, vI (0 : Int), .slice none 0 0], vI (0 : Int)]) rfl ⟨⟨_, 0, _, _, _, rfl, rfl, .inl ⟨tyF38, rfl, rfl⟩⟩, rfl, trivial⟩) [1, 2] [] rfl rfl rfl ⟨v5, (.slice none 0 0), rfl, rfl, rfl⟩

set_option maxRecDepth 100000 in
set_option maxHeartbeats 4000000 in
theorem w_ref_Store_Has20 {sp0 : dumbwaiterref20_Store} {atp1 : UInt64} {np2 : UInt64} {b_sp0 : Nat} {vsp01 : Value} {vsp02 : Value} {vsp03 : Value} {r : Bool} (h : ref_Store_Has20 sp0 atp1 np2 = some r) :
  Ctr Try.prog 88 #[.pointer (some ⟨b_sp0, 0, none⟩), vU64 atp1, vU64 np2] [(cellsR b_sp0 105 [vsp01, vsp02, vsp03]), (rowS u8S vsp01 sp0.old), (rowS u8S vsp02 sp0.now), (rowS bS vsp03 sp0.fresh)] []
   (fun rv own shr => rv = vB r ∧ own = [(cellsR b_sp0 105 [vsp01, vsp02, vsp03]), (rowS u8S vsp01 sp0.old), (rowS u8S vsp02 sp0.now), (rowS bS vsp03 sp0.fresh)] ∧ shr = []) := by
 unfold ref_Store_Has20 at h
 refine Ctr.mk (args := [.pointer (some ⟨b_sp0, 0, none⟩), vU64 atp1, vU64 np2]) Try.func88 rfl rfl (fun R0 w0 B => ?_)
 refine Tk_seq (Tk_region (Tops_step rfl (OpT_assign rfl rfl rfl rfl) ?_))
 refine Tops_nil (tZ [0, 1, 2] [0, 1, 2, 3] [] rfl rfl rfl rfl ?_)
 refine Tk_seq (Tk_region (Tops_step rfl (OpT_move rfl rfl rfl rfl) ?_))
 refine Tops_step rfl (OpT_nilCheckP rfl rfl rfl rfl) ?_
 refine Tops_step rfl (OpT_fieldC rfl rfl rfl rfl fldF105x2) ?_
 refine Tops_step rfl (OpT_loadC rfl rfl rfl rfl tyF103 (i := 0) rfl rfl) ?_
 refine Tops_step rfl (OpT_lenO rfl rfl rfl rfl Try.underlying103 (i := 3) rfl) ?_
 refine Tops_step rfl (OpT_cnv rfl rfl rfl rfl (cnv_i_u64 (n := len sp0.fresh) Try.underlying3 Try.underlying29)) ?_
 refine Tops_step rfl (OpT_assign rfl rfl rfl rfl) ?_
 refine Tops_nil (tZ [1, 2, 7] [0, 1, 2, 3] [] rfl rfl rfl rfl ?_)
 refine Tk_seq (Tk_region (Tops_step rfl (OpT_move rfl rfl rfl rfl) ?_))
 refine Tops_step rfl (OpT_move rfl rfl rfl rfl) ?_
 refine Tops_step rfl (OpT_bin rfl rfl rfl rfl rfl (bin_leq_u64 (a := atp1) (b := u64 (len sp0.fresh)))) ?_
 refine Tops_step rfl (OpT_move rfl rfl rfl rfl) ?_
 rcases Bool.eq_false_or_eq_true (decide (atp1 ≤ (u64 (len sp0.fresh)))) with hg1 | hg1
 ·replace h := br_t hg1 h
  refine Tops_yes rfl rfl (congrArg (fun b => some (Value.bool b)) hg1) (OpT_move rfl rfl rfl rfl) ?_
  rintro _ rfl
  refine Tops_yes rfl rfl (congrArg (fun b => some (Value.bool b)) hg1) (OpT_move rfl rfl rfl rfl) ?_
  rintro _ rfl
  refine Tops_yes rfl rfl (congrArg (fun b => some (Value.bool b)) hg1) (OpT_move rfl rfl rfl rfl) ?_
  rintro _ rfl
  refine Tops_yes rfl rfl (congrArg (fun b => some (Value.bool b)) hg1) (OpT_bin rfl rfl rfl rfl rfl (bin_sub_u64 (a := u64 (len sp0.fresh)) (b := atp1))) ?_
  rintro _ rfl
  refine Tops_yes rfl rfl (congrArg (fun b => some (Value.bool b)) hg1) (OpT_bin rfl rfl rfl rfl rfl (bin_leq_u64 (a := np2) (b := (u64 (len sp0.fresh)) - atp1))) ?_
  rintro _ rfl
  refine Tops_step rfl (OpT_pickT rfl rfl rfl (congrArg (fun b => some (Value.bool b)) hg1) rfl) ?_
  refine Tops_step rfl (OpT_assign rfl rfl rfl rfl) ?_
  refine Tops_nil (tZ [6] [0, 1, 2, 3] [] rfl rfl rfl rfl ?_)
  obtain rfl := Option.some.inj h
  exact Tk_retV rfl rfl (resA (vs := [vB (decide (np2 ≤ ((u64 (len sp0.fresh)) - atp1)))]) rfl ⟨rfl, trivial⟩) [0, 1, 2, 3] [] rfl rfl rfl ⟨rfl, rfl, rfl⟩
 ·replace h := br_f hg1 h
  refine Tops_no rfl rfl (congrArg (fun b => some (Value.bool b)) hg1) rfl rfl ?_
  refine Tops_no rfl rfl (congrArg (fun b => some (Value.bool b)) hg1) rfl rfl ?_
  refine Tops_no rfl rfl (congrArg (fun b => some (Value.bool b)) hg1) rfl rfl ?_
  refine Tops_no rfl rfl (congrArg (fun b => some (Value.bool b)) hg1) rfl rfl ?_
  refine Tops_no rfl rfl (congrArg (fun b => some (Value.bool b)) hg1) rfl rfl ?_
  refine Tops_step rfl (OpT_pickF rfl rfl rfl (congrArg (fun b => some (Value.bool b)) hg1) rfl) ?_
  refine Tops_step rfl (OpT_assign rfl rfl rfl rfl) ?_
  refine Tops_nil (tZ [6] [0, 1, 2, 3] [] rfl rfl rfl rfl ?_)
  obtain rfl := Option.some.inj h
  exact Tk_retV rfl rfl (resA (vs := [vB false]) rfl ⟨rfl, trivial⟩) [0, 1, 2, 3] [] rfl rfl rfl ⟨rfl, rfl, rfl⟩

set_option maxRecDepth 100000 in
set_option maxHeartbeats 4000000 in
theorem w_ref_Store_Write20 {sp0 : dumbwaiterref20_Store} {atp1 : UInt64} {b : List UInt8} {b_sp0 : Nat} {vsp01 : Value} {vsp02 : Value} {vsp03 : Value} {vb1 : Value} {r : (Int × dumbwaiterref20_Store)} (h : ref_Store_Write20 sp0 atp1 b = some r) :
  Ctr Try.prog 81 #[.pointer (some ⟨b_sp0, 0, none⟩), vU64 atp1, vb1] [(cellsR b_sp0 105 [vsp01, vsp02, vsp03]), (rowS u8S vsp01 sp0.old), (rowS u8S vsp02 sp0.now), (rowS bS vsp03 sp0.fresh)] [Fact.sl u8S vb1 b]
   (fun rv own shr => ∃ (w1 : Value), ∃ (w2 : Value), ∃ (w3 : Value), rv = vI r.1 ∧ own = [(cellsR b_sp0 105 [w1, w2, w3]), (rowS u8S w1 r.2.old), (rowS u8S w2 r.2.now), (rowS bS w3 r.2.fresh)] ∧ shr = []) := by
 unfold ref_Store_Write20 at h
 refine Ctr.mk (args := [.pointer (some ⟨b_sp0, 0, none⟩), vU64 atp1, vb1]) Try.func81 rfl rfl (fun R0 w0 B => ?_)
 refine Tk_seq (Tk_region (Tops_step rfl (OpT_assign rfl rfl rfl rfl) ?_))
 refine Tops_nil (tZ [0, 1, 2] [0, 1, 2, 3] [0] rfl rfl rfl rfl ?_)
 refine Tk_seq (Tk_seq (Tk_region (Tops_step rfl (OpT_move rfl rfl rfl rfl) ?_)))
 refine Tops_step rfl (OpT_lenS rfl rfl rfl rfl Try.underlying35 (i := 0) rfl) ?_
 refine Tops_step rfl (OpT_bin rfl rfl rfl rfl rfl (bin_rem_i (a := len b) (b := (512 : Int)) rfl)) ?_
 refine Tops_step rfl (OpT_bin rfl rfl rfl rfl rfl (bin_neq_i (a := remi (len b) (512 : Int)) (b := (0 : Int)))) ?_
 refine Tops_nil (tZ [0, 1, 2, 12] [0, 1, 2, 3] [0] rfl rfl rfl rfl ?_)
 rcases Bool.eq_false_or_eq_true ((remi (len b) (512 : Int)) != (0 : Int)) with hg1 | hg1
 ·replace h := br_t hg1 h
  refine Tk_condT (congrArg (fun b => some (Value.bool b)) hg1) ?_
  refine Tk_seq (Tk_region (Tops_step rfl (OpT_assign rfl rfl rfl rfl) ?_))
  refine Tops_nil (tZ [6] [0, 1, 2, 3] [] rfl rfl rfl rfl ?_)
  obtain rfl := Option.some.inj h
  exact Tk_retV rfl rfl (resA (vs := [vI (2 : Int)]) rfl ⟨rfl, trivial⟩) [0, 1, 2, 3] [] rfl rfl rfl ⟨vsp01, vsp02, vsp03, rfl, rfl, rfl⟩
 ·replace h := br_f hg1 h
  refine Tk_condF (congrArg (fun b => some (Value.bool b)) hg1) ?_
  refine Tk_skip (Tk_seq (Tk_region (Tops_step rfl (OpT_move rfl rfl rfl rfl) ?_)))
  refine Tops_step rfl (OpT_lenS rfl rfl rfl rfl Try.underlying35 (i := 0) rfl) ?_
  refine Tops_step rfl (OpT_bin rfl rfl rfl rfl rfl (bin_quo_i (a := len b) (b := (512 : Int)) rfl)) ?_
  refine Tops_step rfl (OpT_assign rfl rfl rfl rfl) ?_
  refine Tops_nil (tZ [0, 1, 2, 7] [0, 1, 2, 3] [0] rfl rfl rfl rfl ?_)
  refine Tk_seq (Tk_seq (Tk_region (Tops_step rfl (OpT_move rfl rfl rfl rfl) ?_)))
  refine Tops_step rfl (OpT_move rfl rfl rfl rfl) ?_
  refine Tops_step rfl (OpT_move rfl rfl rfl rfl) ?_
  refine Tops_step rfl (OpT_cnv rfl rfl rfl rfl (cnv_i_u64 (n := quoi (len b) (512 : Int)) Try.underlying3 Try.underlying29)) ?_
  obtain ⟨has1, hx1, h⟩ := ob_e h
  refine Tops_exP rfl (OpT_callP [4, 5, 6, 7] (w_ref_Store_Has20 hx1) [0, 1, 2, 3] [] rfl rfl rfl rfl rfl callee88 rfl rfl rfl rfl rfl) ?_
  rintro _ ⟨_, _, _, ⟨rfl, rfl, rfl⟩, rfl⟩
  refine Tops_step rfl (OpT_not rfl rfl rfl rfl) ?_
  refine Tops_nil (tZ [0, 1, 2, 7, 21] [0, 1, 2, 3] [0] rfl rfl rfl rfl ?_)
  rcases Bool.eq_false_or_eq_true ((!has1)) with hg2 | hg2
  ·replace h := br_t hg2 h
   refine Tk_condT (congrArg (fun b => some (Value.bool b)) hg2) ?_
   refine Tk_seq (Tk_region (Tops_step rfl (OpT_assign rfl rfl rfl rfl) ?_))
   refine Tops_nil (tZ [6] [0, 1, 2, 3] [] rfl rfl rfl rfl ?_)
   obtain rfl := Option.some.inj h
   exact Tk_retV rfl rfl (resA (vs := [vI (5 : Int)]) rfl ⟨rfl, trivial⟩) [0, 1, 2, 3] [] rfl rfl rfl ⟨vsp01, vsp02, vsp03, rfl, rfl, rfl⟩
  ·replace h := br_f hg2 h
   refine Tk_condF (congrArg (fun b => some (Value.bool b)) hg2) ?_
   refine Tk_skip (Tk_seq (Tk_region (Tops_step rfl (OpT_move rfl rfl rfl rfl) ?_)))
   refine Tops_step rfl (OpT_nilCheckP rfl rfl rfl rfl) ?_
   refine Tops_step rfl (OpT_fieldC rfl rfl rfl rfl fldF105x1) ?_
   refine Tops_step rfl (OpT_loadC rfl rfl rfl rfl tyF35 (i := 0) rfl rfl) ?_
   refine Tops_step rfl (OpT_move rfl rfl rfl rfl) ?_
   refine Tops_step rfl (OpT_cnv rfl rfl rfl rfl (cnv_u64_i (n := atp1) Try.underlying29 Try.underlying3)) ?_
   refine Tops_step rfl (OpT_bin rfl rfl rfl rfl rfl (bin_mul_i (a := i64 atp1) (b := (512 : Int)))) ?_
   obtain ⟨hc1, h⟩ := chk_e h
   refine Tops_step rfl (OpT_subL (S := u8S) (l := wi ((i64 atp1) * (512 : Int))) rfl rfl rfl rfl rfl slF35 (i := 2) rfl hc1) ?_
   refine Tops_step rfl (OpT_move rfl rfl rfl rfl) ?_
   refine Tops_step rfl (OpT_copyS (S := u8S) (l := (wi ((i64 atp1) * (512 : Int)))) (m := (len sp0.now)) rfl rfl rfl rfl rfl rfl slF35 (i := 2) (j := 0) rfl rfl hc1) ?_
   refine Tops_nil (tZ [0, 1, 7] [0, 1, 2, 3] [] rfl rfl rfl rfl ?_)
   refine Tk_seq (Tk_seq (Tk_region (Tops_step rfl (OpT_assign rfl rfl rfl rfl) ?_)))
   refine Tops_nil (Tk_block (Tk_loopS (σ := (List UInt8) × (List UInt8) × (List Bool) × Int × Value × Value × Value) [0, 1, 7, 8] [0, 1, 2, 3] [] (fun s => ⟨[(0, some (.pointer (some ⟨b_sp0, 0, none⟩))), (1, some (vU64 atp1)), (7, some (vI (quoi (len b) (512 : Int)))), (8, some (vI s.2.2.2.1))], [some (cellsR b_sp0 105 [s.2.2.2.2.1, s.2.2.2.2.2.1, s.2.2.2.2.2.2]), some (rowS u8S s.2.2.2.2.1 s.1), some (rowS u8S s.2.2.2.2.2.1 s.2.1), some (rowS bS s.2.2.2.2.2.2 s.2.2.1)], []⟩) (fun nf1 s => ref_Store_Write20L1 atp1 b nf1 s.1 s.2.1 s.2.2.1 s.2.2.2.1 = some r) fuel (sp0.old, copyAt sp0.now (wi ((i64 atp1) * (512 : Int))) (len sp0.now) b, sp0.fresh, (0 : Int), vsp01, vsp02, vsp03) h rfl rfl rfl rfl rfl (fun s h => by cases h) ?_))
   rintro nf1 ⟨l1, l2, l3, i1, v1, v2, v3⟩ h
   replace h : ref_Store_Write20L1B atp1 b (ref_Store_Write20L1 atp1 b nf1) l1 l2 l3 i1 = some r := h
   unfold ref_Store_Write20L1B at h
   refine Tk_seq (Tk_seq (Tk_region (Tops_step rfl (OpT_move rfl rfl rfl rfl) ?_)))
   refine Tops_step rfl (OpT_move rfl rfl rfl rfl) ?_
   refine Tops_step rfl (OpT_bin rfl rfl rfl rfl rfl (bin_lss_i (a := i1) (b := quoi (len b) (512 : Int)))) ?_
   refine Tops_nil (tZ [0, 1, 7, 8, 34] [0, 1, 2, 3] [] rfl rfl rfl rfl ?_)
   rcases Bool.eq_false_or_eq_true (decide (i1 < (quoi (len b) (512 : Int)))) with hg3 | hg3
   ·replace h := br_t hg3 h
    refine Tk_condT (congrArg (fun b => some (Value.bool b)) hg3) ?_
    refine Tk_skip (Tk_seq (Tk_block (Tk_region (Tops_step rfl (OpT_move rfl rfl rfl rfl) ?_))))
    refine Tops_step rfl (OpT_nilCheckP rfl rfl rfl rfl) ?_
    refine Tops_step rfl (OpT_fieldC rfl rfl rfl rfl fldF105x2) ?_
    refine Tops_step rfl (OpT_loadC rfl rfl rfl rfl tyF103 (i := 0) rfl rfl) ?_
    refine Tops_step rfl (OpT_move rfl rfl rfl rfl) ?_
    refine Tops_step rfl (OpT_cnv rfl rfl rfl rfl (cnv_u64_i (n := atp1) Try.underlying29 Try.underlying3)) ?_
    refine Tops_step rfl (OpT_move rfl rfl rfl rfl) ?_
    refine Tops_step rfl (OpT_bin rfl rfl rfl rfl rfl (bin_add_i (a := i64 atp1) (b := i1))) ?_
    obtain ⟨y1, hx2, h⟩ := ob_e h
    refine Tops_step rfl (OpT_idxO rfl rfl rfl rfl rfl slF103 (i := 3) rfl hx2) ?_
    refine Tops_step rfl (OpT_storeO (S := bS) (u := true) rfl rfl rfl rfl rfl tyF4 (i := 3) rfl hx2 rfl) ?_
    refine Tops_nil (tZ [0, 1, 7, 8] [0, 1, 2, 3] [] rfl rfl rfl rfl ?_)
    refine Tk_blk (Tk_region (Tops_step rfl (OpT_move rfl rfl rfl rfl) ?_))
    refine Tops_step rfl (OpT_bin rfl rfl rfl rfl rfl (bin_add_i (a := i1) (b := (1 : Int)))) ?_
    refine Tops_step rfl (OpT_assign rfl rfl rfl rfl) ?_
    refine Tops_nil (tZ [0, 1, 7, 8] [0, 1, 2, 3] [] rfl rfl rfl rfl ?_)
    exact Tk_backS (l1, l2, l3.set (wi ((i64 atp1) + i1)).toNat true, wi (i1 + (1 : Int)), v1, v2, v3) h [0, 1, 7, 8] [0, 1, 2, 3] [] rfl rfl rfl rfl rfl
   ·replace h := br_f hg3 h
    refine Tk_condF (congrArg (fun b => some (Value.bool b)) hg3) ?_
    refine Tk_exit _ rfl ?_
    refine Tk_seq (Tk_region (Tops_step rfl (OpT_assign rfl rfl rfl rfl) ?_))
    refine Tops_nil (tZ [6] [0, 1, 2, 3] [] rfl rfl rfl rfl ?_)
    obtain rfl := Option.some.inj h
    exact Tk_retV rfl rfl (resA (vs := [vI (0 : Int)]) rfl ⟨rfl, trivial⟩) [0, 1, 2, 3] [] rfl rfl rfl ⟨v1, v2, v3, rfl, rfl, rfl⟩

set_option maxRecDepth 100000 in
set_option maxHeartbeats 4000000 in
theorem w_ref_Has06 {set : UInt64} {bit : Int} {r : Bool} (h : ref_Has06 set bit = some r) :
  Ctr Try.prog 79 #[vU64 set, vI bit] [] []
   (fun rv own shr => rv = vB r ∧ own = [] ∧ shr = []) := by
 unfold ref_Has06 at h
 refine Ctr.mk (args := [vU64 set, vI bit]) Try.func79 rfl rfl (fun R0 w0 B => ?_)
 refine Tk_seq (Tk_region (Tops_step rfl (OpT_assign rfl rfl rfl rfl) ?_))
 refine Tops_nil (tZ [0, 1] [] [] rfl rfl rfl rfl ?_)
 refine Tk_seq (Tk_region (Tops_step rfl (OpT_move rfl rfl rfl rfl) ?_))
 refine Tops_step rfl (OpT_bin rfl rfl rfl rfl rfl (bin_geq_i (a := bit) (b := (0 : Int)))) ?_
 refine Tops_step rfl (OpT_move rfl rfl rfl rfl) ?_
 rcases Bool.eq_false_or_eq_true (decide (bit ≥ (0 : Int))) with hg1 | hg1
 ·replace h := br_t hg1 h
  refine Tops_yes rfl rfl (congrArg (fun b => some (Value.bool b)) hg1) (OpT_move rfl rfl rfl rfl) ?_
  rintro _ rfl
  refine Tops_yes rfl rfl (congrArg (fun b => some (Value.bool b)) hg1) (OpT_bin rfl rfl rfl rfl rfl (bin_lss_i (a := bit) (b := (64 : Int)))) ?_
  rintro _ rfl
  refine Tops_step rfl (OpT_pickT rfl rfl rfl (congrArg (fun b => some (Value.bool b)) hg1) rfl) ?_
  refine Tops_step rfl (OpT_move rfl rfl rfl rfl) ?_
  rcases Bool.eq_false_or_eq_true (decide (bit < (64 : Int))) with hg2 | hg2
  ·replace h := br_t hg2 h
   refine Tops_yes rfl rfl (congrArg (fun b => some (Value.bool b)) hg2) (OpT_move rfl rfl rfl rfl) ?_
   rintro _ rfl
   refine Tops_yes rfl rfl (congrArg (fun b => some (Value.bool b)) hg2) (OpT_move rfl rfl rfl rfl) ?_
   rintro _ rfl
   refine Tops_yes rfl rfl (congrArg (fun b => some (Value.bool b)) hg2) (OpT_cnv rfl rfl rfl rfl (cnv_i_u64 (n := bit) Try.underlying3 Try.underlying95)) ?_
   rintro _ rfl
   refine Tops_yes rfl rfl (congrArg (fun b => some (Value.bool b)) hg2) (OpT_bin rfl rfl rfl rfl rfl (bin_shr_u64_u64 (a := set) (n := u64 bit))) ?_
   rintro _ rfl
   refine Tops_yes rfl rfl (congrArg (fun b => some (Value.bool b)) hg2) (OpT_bin rfl rfl rfl rfl rfl (bin_rem_u64 (a := shr64 set ((u64 bit).toNat)) (b := (2 : UInt64)) rfl)) ?_
   rintro _ rfl
   refine Tops_yes rfl rfl (congrArg (fun b => some (Value.bool b)) hg2) (OpT_bin rfl rfl rfl rfl rfl (bin_eql_u64 (a := (shr64 set ((u64 bit).toNat)) % (2 : UInt64)) (b := (1 : UInt64)))) ?_
   rintro _ rfl
   refine Tops_step rfl (OpT_pickT rfl rfl rfl (congrArg (fun b => some (Value.bool b)) hg2) rfl) ?_
   refine Tops_step rfl (OpT_assign rfl rfl rfl rfl) ?_
   refine Tops_nil (tZ [4] [] [] rfl rfl rfl rfl ?_)
   obtain rfl := Option.some.inj h
   exact Tk_retV rfl rfl (resA (vs := [vB (((shr64 set ((u64 bit).toNat)) % (2 : UInt64)) == (1 : UInt64))]) rfl ⟨rfl, trivial⟩) [] [] rfl rfl rfl ⟨rfl, rfl, rfl⟩
  ·replace h := br_f hg2 h
   refine Tops_no rfl rfl (congrArg (fun b => some (Value.bool b)) hg2) rfl rfl ?_
   refine Tops_no rfl rfl (congrArg (fun b => some (Value.bool b)) hg2) rfl rfl ?_
   refine Tops_no rfl rfl (congrArg (fun b => some (Value.bool b)) hg2) rfl rfl ?_
   refine Tops_no rfl rfl (congrArg (fun b => some (Value.bool b)) hg2) rfl rfl ?_
   refine Tops_no rfl rfl (congrArg (fun b => some (Value.bool b)) hg2) rfl rfl ?_
   refine Tops_no rfl rfl (congrArg (fun b => some (Value.bool b)) hg2) rfl rfl ?_
   refine Tops_step rfl (OpT_pickF rfl rfl rfl (congrArg (fun b => some (Value.bool b)) hg2) rfl) ?_
   refine Tops_step rfl (OpT_assign rfl rfl rfl rfl) ?_
   refine Tops_nil (tZ [4] [] [] rfl rfl rfl rfl ?_)
   obtain rfl := Option.some.inj h
   exact Tk_retV rfl rfl (resA (vs := [vB false]) rfl ⟨rfl, trivial⟩) [] [] rfl rfl rfl ⟨rfl, rfl, rfl⟩
 ·replace h := br_f hg1 h
  refine Tops_no rfl rfl (congrArg (fun b => some (Value.bool b)) hg1) rfl rfl ?_
  refine Tops_no rfl rfl (congrArg (fun b => some (Value.bool b)) hg1) rfl rfl ?_
  refine Tops_step rfl (OpT_pickF rfl rfl rfl (congrArg (fun b => some (Value.bool b)) hg1) rfl) ?_
  refine Tops_step rfl (OpT_move rfl rfl rfl rfl) ?_
  refine Tops_no rfl rfl rfl rfl rfl ?_
  refine Tops_no rfl rfl rfl rfl rfl ?_
  refine Tops_no rfl rfl rfl rfl rfl ?_
  refine Tops_no rfl rfl rfl rfl rfl ?_
  refine Tops_no rfl rfl rfl rfl rfl ?_
  refine Tops_no rfl rfl rfl rfl rfl ?_
  refine Tops_step rfl (OpT_pickF rfl rfl rfl rfl rfl) ?_
  refine Tops_step rfl (OpT_assign rfl rfl rfl rfl) ?_
  refine Tops_nil (tZ [4] [] [] rfl rfl rfl rfl ?_)
  obtain rfl := Option.some.inj h
  exact Tk_retV rfl rfl (resA (vs := [vB false]) rfl ⟨rfl, trivial⟩) [] [] rfl rfl rfl ⟨rfl, rfl, rfl⟩

set_option maxRecDepth 100000 in
set_option maxHeartbeats 4000000 in
theorem w_ref_Store_Zero20 {sp0 : dumbwaiterref20_Store} {atp1 : UInt64} {np2 : UInt64} {b_sp0 : Nat} {vsp01 : Value} {vsp02 : Value} {vsp03 : Value} {r : (Int × dumbwaiterref20_Store)} (h : ref_Store_Zero20 sp0 atp1 np2 = some r) :
  Ctr Try.prog 89 #[.pointer (some ⟨b_sp0, 0, none⟩), vU64 atp1, vU64 np2] [(cellsR b_sp0 105 [vsp01, vsp02, vsp03]), (rowS u8S vsp01 sp0.old), (rowS u8S vsp02 sp0.now), (rowS bS vsp03 sp0.fresh)] []
   (fun rv own shr => ∃ (w1 : Value), ∃ (w2 : Value), ∃ (w3 : Value), rv = vI r.1 ∧ own = [(cellsR b_sp0 105 [w1, w2, w3]), (rowS u8S w1 r.2.old), (rowS u8S w2 r.2.now), (rowS bS w3 r.2.fresh)] ∧ shr = []) := by
 unfold ref_Store_Zero20 at h
 refine Ctr.mk (args := [.pointer (some ⟨b_sp0, 0, none⟩), vU64 atp1, vU64 np2]) Try.func89 rfl rfl (fun R0 w0 B => ?_)
 refine Tk_seq (Tk_region (Tops_step rfl (OpT_assign rfl rfl rfl rfl) ?_))
 refine Tops_nil (tZ [0, 1, 2] [0, 1, 2, 3] [] rfl rfl rfl rfl ?_)
 refine Tk_seq (Tk_seq (Tk_region (Tops_step rfl (OpT_move rfl rfl rfl rfl) ?_)))
 refine Tops_step rfl (OpT_move rfl rfl rfl rfl) ?_
 refine Tops_step rfl (OpT_move rfl rfl rfl rfl) ?_
 obtain ⟨has1, hx1, h⟩ := ob_e h
 refine Tops_exP rfl (OpT_callP [4, 5, 6, 7] (w_ref_Store_Has20 hx1) [0, 1, 2, 3] [] rfl rfl rfl rfl rfl callee88 rfl rfl rfl rfl rfl) ?_
 rintro _ ⟨_, _, _, ⟨rfl, rfl, rfl⟩, rfl⟩
 refine Tops_step rfl (OpT_not rfl rfl rfl rfl) ?_
 refine Tops_nil (tZ [0, 1, 2, 11] [0, 1, 2, 3] [] rfl rfl rfl rfl ?_)
 rcases Bool.eq_false_or_eq_true ((!has1)) with hg1 | hg1
 ·replace h := br_t hg1 h
  refine Tk_condT (congrArg (fun b => some (Value.bool b)) hg1) ?_
  refine Tk_seq (Tk_region (Tops_step rfl (OpT_assign rfl rfl rfl rfl) ?_))
  refine Tops_nil (tZ [6] [0, 1, 2, 3] [] rfl rfl rfl rfl ?_)
  obtain rfl := Option.some.inj h
  exact Tk_retV rfl rfl (resA (vs := [vI (5 : Int)]) rfl ⟨rfl, trivial⟩) [0, 1, 2, 3] [] rfl rfl rfl ⟨vsp01, vsp02, vsp03, rfl, rfl, rfl⟩
 ·replace h := br_f hg1 h
  refine Tk_condF (congrArg (fun b => some (Value.bool b)) hg1) ?_
  refine Tk_skip (Tk_seq (Tk_region (Tops_step rfl (OpT_move rfl rfl rfl rfl) ?_)))
  refine Tops_step rfl (OpT_move rfl rfl rfl rfl) ?_
  refine Tops_step rfl (OpT_move rfl rfl rfl rfl) ?_
  refine Tops_step rfl (OpT_cnv rfl rfl rfl rfl (cnv_u64_i (n := np2) Try.underlying29 Try.underlying3)) ?_
  refine Tops_step rfl (OpT_bin rfl rfl rfl rfl rfl (bin_mul_i (a := i64 np2) (b := (512 : Int)))) ?_
  obtain ⟨hc1, h⟩ := chk_e h
  refine Tops_ex rfl (OpT_makeD u8S rfl (u := (0 : UInt8)) rfl rfl rfl rfl rfl slF35 rfl hc1) fun v1 => ?_
  refine Tops_retire (i := 4) rfl ?_
  obtain ⟨write1, hx2, h⟩ := ob_e h
  refine Tops_exP rfl (OpT_callP [5, 6, 7, 8, 4] (w_ref_Store_Write20 hx2) [0, 1, 2, 3] [0] rfl rfl rfl rfl rfl callee81 rfl rfl rfl rfl rfl) ?_
  rintro _ ⟨_, _, _, ⟨v2, v3, v4, rfl, rfl, rfl⟩, rfl⟩
  refine Tops_step rfl (OpT_assign rfl rfl rfl rfl) ?_
  refine Tops_nil (tZ [6] [0, 1, 2, 3] [] rfl rfl rfl rfl ?_)
  obtain rfl := Option.some.inj h
  exact Tk_retV rfl rfl (resA (vs := [vI write1.1]) rfl ⟨rfl, trivial⟩) [0, 1, 2, 3] [] rfl rfl rfl ⟨v2, v3, v4, rfl, rfl, rfl⟩

set_option maxRecDepth 100000 in
set_option maxHeartbeats 4000000 in
theorem w_ref_ranges21 {sp0 : dumbwaiterref20_Store} {feats : UInt64} {tp2 : UInt32} {ro : Bool} {b : List UInt8} {b_sp0 : Nat} {vsp01 : Value} {vsp02 : Value} {vsp03 : Value} {vb1 : Value} {r : (UInt8 × dumbwaiterref20_Store)} (h : ref_ranges21 sp0 feats tp2 ro b = some r) :
  Ctr Try.prog 83 #[.pointer (some ⟨b_sp0, 0, none⟩), vU64 feats, vU32 tp2, vB ro, vb1] [(cellsR b_sp0 105 [vsp01, vsp02, vsp03]), (rowS u8S vsp01 sp0.old), (rowS u8S vsp02 sp0.now), (rowS bS vsp03 sp0.fresh)] [Fact.sl u8S vb1 b]
   (fun rv own shr => ∃ (w1 : Value), ∃ (w2 : Value), ∃ (w3 : Value), rv = vU8 r.1 ∧ own = [(cellsR b_sp0 105 [w1, w2, w3]), (rowS u8S w1 r.2.old), (rowS u8S w2 r.2.now), (rowS bS w3 r.2.fresh)] ∧ shr = []) := by
 unfold ref_ranges21 at h
 refine Ctr.mk (args := [.pointer (some ⟨b_sp0, 0, none⟩), vU64 feats, vU32 tp2, vB ro, vb1]) Try.func83 rfl rfl (fun R0 w0 B => ?_)
 refine Tk_seq (Tk_region (Tops_step rfl (OpT_assign rfl rfl rfl rfl) ?_))
 refine Tops_nil (tZ [0, 1, 2, 3, 4] [0, 1, 2, 3] [0] rfl rfl rfl rfl ?_)
 refine Tk_seq (Tk_region (Tops_step rfl (OpT_assign rfl rfl rfl rfl) ?_))
 refine Tops_nil (Tk_seq (Tk_seq (Tk_region (Tops_step rfl (OpT_move rfl rfl rfl rfl) ?_))))
 refine Tops_step rfl (OpT_bin rfl rfl rfl rfl rfl (bin_eql_u32 (a := tp2) (b := (13 : UInt32)))) ?_
 refine Tops_nil (tZ [0, 1, 2, 3, 4, 11, 18] [0, 1, 2, 3] [0] rfl rfl rfl rfl ?_)
 refine Tk_join (α := Int) (fun s => ⟨[(0, some (.pointer (some ⟨b_sp0, 0, none⟩))), (1, some (vU64 feats)), (2, some (vU32 tp2)), (3, some (vB ro)), (4, some (vb1)), (11, some (vI s))], [some (cellsR b_sp0 105 [vsp01, vsp02, vsp03]), some (rowS u8S vsp01 sp0.old), some (rowS u8S vsp02 sp0.now), some (rowS bS vsp03 sp0.fresh)], [Fact.sl u8S vb1 b]⟩) (fun s => ref_ranges21J1 sp0 feats tp2 ro b s = some r) ?_ ?_
 ·rintro bit1 h
  replace h : ref_ranges21J1 sp0 feats tp2 ro b bit1 = some r := h
  unfold ref_ranges21J1 at h
  refine Tk_seq (Tk_seq (Tk_region (Tops_step rfl (OpT_move rfl rfl rfl rfl) ?_)))
  refine Tops_step rfl (OpT_move rfl rfl rfl rfl) ?_
  obtain ⟨has1, hx1, h⟩ := ob_e h
  refine Tops_exP rfl (OpT_call (w_ref_Has06 hx1) [] [] rfl rfl rfl rfl rfl callee79 rfl rfl rfl rfl) ?_
  rintro _ ⟨_, _, _, ⟨rfl, rfl, rfl⟩, rfl⟩
  refine Tops_step rfl (OpT_not rfl rfl rfl rfl) ?_
  refine Tops_nil (tZ [0, 2, 3, 4, 22] [0, 1, 2, 3] [0] rfl rfl rfl rfl ?_)
  rcases Bool.eq_false_or_eq_true ((!has1)) with hg1 | hg1
  ·replace h := br_t hg1 h
   refine Tk_condT (congrArg (fun b => some (Value.bool b)) hg1) ?_
   refine Tk_seq (Tk_region (Tops_step rfl (OpT_assign rfl rfl rfl rfl) ?_))
   refine Tops_nil (tZ [10] [0, 1, 2, 3] [] rfl rfl rfl rfl ?_)
   obtain rfl := Option.some.inj h
   exact Tk_retV rfl rfl (resA (vs := [vU8 (2 : UInt8)]) rfl ⟨rfl, trivial⟩) [0, 1, 2, 3] [] rfl rfl rfl ⟨vsp01, vsp02, vsp03, rfl, rfl, rfl⟩
  ·replace h := br_f hg1 h
   refine Tk_condF (congrArg (fun b => some (Value.bool b)) hg1) ?_
   refine Tk_skip (Tk_seq (Tk_region (Tops_step rfl (OpT_move rfl rfl rfl rfl) ?_)))
   refine Tops_step rfl (OpT_lenS rfl rfl rfl rfl Try.underlying35 (i := 0) rfl) ?_
   refine Tops_step rfl (OpT_bin rfl rfl rfl rfl rfl (bin_quo_i (a := len b) (b := (16 : Int)) rfl)) ?_
   refine Tops_step rfl (OpT_assign rfl rfl rfl rfl) ?_
   refine Tops_nil (tZ [0, 2, 3, 4, 12] [0, 1, 2, 3] [0] rfl rfl rfl rfl ?_)
   refine Tk_seq (Tk_seq (Tk_region (Tops_step rfl (OpT_move rfl rfl rfl rfl) ?_)))
   refine Tops_step rfl (OpT_move rfl rfl rfl rfl) ?_
   rcases Bool.eq_false_or_eq_true (ro) with hg2 | hg2
   ·replace h := br_t hg2 h
    refine Tops_no rfl rfl (congrArg (fun b => some (Value.bool b)) hg2) rfl rfl ?_
    refine Tops_no rfl rfl (congrArg (fun b => some (Value.bool b)) hg2) rfl rfl ?_
    refine Tops_no rfl rfl (congrArg (fun b => some (Value.bool b)) hg2) rfl rfl ?_
    refine Tops_no rfl rfl (congrArg (fun b => some (Value.bool b)) hg2) rfl rfl ?_
    refine Tops_step rfl (OpT_pickT rfl rfl rfl (congrArg (fun b => some (Value.bool b)) hg2) rfl) ?_
    refine Tops_step rfl (OpT_move rfl rfl rfl rfl) ?_
    refine Tops_no rfl rfl rfl rfl rfl ?_
    refine Tops_no rfl rfl rfl rfl rfl ?_
    refine Tops_step rfl (OpT_pickT rfl rfl rfl rfl rfl) ?_
    refine Tops_step rfl (OpT_move rfl rfl rfl rfl) ?_
    refine Tops_no rfl rfl rfl rfl rfl ?_
    refine Tops_no rfl rfl rfl rfl rfl ?_
    refine Tops_step rfl (OpT_pickT rfl rfl rfl rfl rfl) ?_
    refine Tops_nil (tZ [0, 2, 4, 12, 40] [0, 1, 2, 3] [0] rfl rfl rfl rfl ?_)
    refine Tk_condT rfl ?_
    refine Tk_seq (Tk_region (Tops_step rfl (OpT_assign rfl rfl rfl rfl) ?_))
    refine Tops_nil (tZ [10] [0, 1, 2, 3] [] rfl rfl rfl rfl ?_)
    obtain rfl := Option.some.inj h
    exact Tk_retV rfl rfl (resA (vs := [vU8 (1 : UInt8)]) rfl ⟨rfl, trivial⟩) [0, 1, 2, 3] [] rfl rfl rfl ⟨vsp01, vsp02, vsp03, rfl, rfl, rfl⟩
   ·replace h := br_f hg2 h
    refine Tops_yes rfl rfl (congrArg (fun b => some (Value.bool b)) hg2) (OpT_move rfl rfl rfl rfl) ?_
    rintro _ rfl
    refine Tops_yes rfl rfl (congrArg (fun b => some (Value.bool b)) hg2) (OpT_lenS rfl rfl rfl rfl Try.underlying35 (i := 0) rfl) ?_
    rintro _ rfl
    refine Tops_yes rfl rfl (congrArg (fun b => some (Value.bool b)) hg2) (OpT_bin rfl rfl rfl rfl rfl (bin_rem_i (a := len b) (b := (16 : Int)) rfl)) ?_
    rintro _ rfl
    refine Tops_yes rfl rfl (congrArg (fun b => some (Value.bool b)) hg2) (OpT_bin rfl rfl rfl rfl rfl (bin_neq_i (a := remi (len b) (16 : Int)) (b := (0 : Int)))) ?_
    rintro _ rfl
    refine Tops_step rfl (OpT_pickF rfl rfl rfl (congrArg (fun b => some (Value.bool b)) hg2) rfl) ?_
    refine Tops_step rfl (OpT_move rfl rfl rfl rfl) ?_
    rcases Bool.eq_false_or_eq_true ((remi (len b) (16 : Int)) != (0 : Int)) with hg3 | hg3
    ·replace h := br_t hg3 h
     refine Tops_no rfl rfl (congrArg (fun b => some (Value.bool b)) hg3) rfl rfl ?_
     refine Tops_no rfl rfl (congrArg (fun b => some (Value.bool b)) hg3) rfl rfl ?_
     refine Tops_step rfl (OpT_pickT rfl rfl rfl (congrArg (fun b => some (Value.bool b)) hg3) rfl) ?_
     refine Tops_step rfl (OpT_move rfl rfl rfl rfl) ?_
     refine Tops_no rfl rfl rfl rfl rfl ?_
     refine Tops_no rfl rfl rfl rfl rfl ?_
     refine Tops_step rfl (OpT_pickT rfl rfl rfl rfl rfl) ?_
     refine Tops_nil (tZ [0, 2, 4, 12, 40] [0, 1, 2, 3] [0] rfl rfl rfl rfl ?_)
     refine Tk_condT rfl ?_
     refine Tk_seq (Tk_region (Tops_step rfl (OpT_assign rfl rfl rfl rfl) ?_))
     refine Tops_nil (tZ [10] [0, 1, 2, 3] [] rfl rfl rfl rfl ?_)
     obtain rfl := Option.some.inj h
     exact Tk_retV rfl rfl (resA (vs := [vU8 (1 : UInt8)]) rfl ⟨rfl, trivial⟩) [0, 1, 2, 3] [] rfl rfl rfl ⟨vsp01, vsp02, vsp03, rfl, rfl, rfl⟩
    ·replace h := br_f hg3 h
     refine Tops_yes rfl rfl (congrArg (fun b => some (Value.bool b)) hg3) (OpT_move rfl rfl rfl rfl) ?_
     rintro _ rfl
     refine Tops_yes rfl rfl (congrArg (fun b => some (Value.bool b)) hg3) (OpT_bin rfl rfl rfl rfl rfl (bin_lss_i (a := quoi (len b) (16 : Int)) (b := (1 : Int)))) ?_
     rintro _ rfl
     refine Tops_step rfl (OpT_pickF rfl rfl rfl (congrArg (fun b => some (Value.bool b)) hg3) rfl) ?_
     refine Tops_step rfl (OpT_move rfl rfl rfl rfl) ?_
     rcases Bool.eq_false_or_eq_true (decide ((quoi (len b) (16 : Int)) < (1 : Int))) with hg4 | hg4
     ·replace h := br_t hg4 h
      refine Tops_no rfl rfl (congrArg (fun b => some (Value.bool b)) hg4) rfl rfl ?_
      refine Tops_no rfl rfl (congrArg (fun b => some (Value.bool b)) hg4) rfl rfl ?_
      refine Tops_step rfl (OpT_pickT rfl rfl rfl (congrArg (fun b => some (Value.bool b)) hg4) rfl) ?_
      refine Tops_nil (tZ [0, 2, 4, 12, 40] [0, 1, 2, 3] [0] rfl rfl rfl rfl ?_)
      refine Tk_condT rfl ?_
      refine Tk_seq (Tk_region (Tops_step rfl (OpT_assign rfl rfl rfl rfl) ?_))
      refine Tops_nil (tZ [10] [0, 1, 2, 3] [] rfl rfl rfl rfl ?_)
      obtain rfl := Option.some.inj h
      exact Tk_retV rfl rfl (resA (vs := [vU8 (1 : UInt8)]) rfl ⟨rfl, trivial⟩) [0, 1, 2, 3] [] rfl rfl rfl ⟨vsp01, vsp02, vsp03, rfl, rfl, rfl⟩
     ·replace h := br_f hg4 h
      refine Tops_yes rfl rfl (congrArg (fun b => some (Value.bool b)) hg4) (OpT_move rfl rfl rfl rfl) ?_
      rintro _ rfl
      refine Tops_yes rfl rfl (congrArg (fun b => some (Value.bool b)) hg4) (OpT_bin rfl rfl rfl rfl rfl (bin_gtr_i (a := quoi (len b) (16 : Int)) (b := (16 : Int)))) ?_
      rintro _ rfl
      refine Tops_step rfl (OpT_pickF rfl rfl rfl (congrArg (fun b => some (Value.bool b)) hg4) rfl) ?_
      refine Tops_nil (tZ [0, 2, 4, 12, 40] [0, 1, 2, 3] [0] rfl rfl rfl rfl ?_)
      rcases Bool.eq_false_or_eq_true (decide ((quoi (len b) (16 : Int)) > (16 : Int))) with hg5 | hg5
      ·replace h := br_t hg5 h
       refine Tk_condT (congrArg (fun b => some (Value.bool b)) hg5) ?_
       refine Tk_seq (Tk_region (Tops_step rfl (OpT_assign rfl rfl rfl rfl) ?_))
       refine Tops_nil (tZ [10] [0, 1, 2, 3] [] rfl rfl rfl rfl ?_)
       obtain rfl := Option.some.inj h
       exact Tk_retV rfl rfl (resA (vs := [vU8 (1 : UInt8)]) rfl ⟨rfl, trivial⟩) [0, 1, 2, 3] [] rfl rfl rfl ⟨vsp01, vsp02, vsp03, rfl, rfl, rfl⟩
      ·replace h := br_f hg5 h
       refine Tk_condF (congrArg (fun b => some (Value.bool b)) hg5) ?_
       refine Tk_skip (Tk_seq (Tk_seq (Tk_region (Tops_step rfl (OpT_assign rfl rfl rfl rfl) ?_))))
       refine Tops_nil (tZ [0, 2, 4, 12, 13] [0, 1, 2, 3] [0] rfl rfl rfl rfl ?_)
       refine Tk_block (Tk_loopS (σ := Int) [0, 2, 4, 12, 13] [0, 1, 2, 3] [0] (fun s => ⟨[(0, some (.pointer (some ⟨b_sp0, 0, none⟩))), (2, some (vU32 tp2)), (4, some (vb1)), (12, some (vI (quoi (len b) (16 : Int)))), (13, some (vI s))], [some (cellsR b_sp0 105 [vsp01, vsp02, vsp03]), some (rowS u8S vsp01 sp0.old), some (rowS u8S vsp02 sp0.now), some (rowS bS vsp03 sp0.fresh)], [Fact.sl u8S vb1 b]⟩) (fun nf2 s => ref_ranges21L2 sp0 tp2 b nf2 s = some r) fuel (0 : Int) h rfl rfl rfl rfl rfl (fun s h => by cases h) ?_)
       rintro nf2 i1 h
       replace h : ref_ranges21L2B sp0 tp2 b (ref_ranges21L2 sp0 tp2 b nf2) i1 = some r := h
       unfold ref_ranges21L2B at h
       refine Tk_seq (Tk_seq (Tk_region (Tops_step rfl (OpT_move rfl rfl rfl rfl) ?_)))
       refine Tops_step rfl (OpT_move rfl rfl rfl rfl) ?_
       refine Tops_step rfl (OpT_bin rfl rfl rfl rfl rfl (bin_lss_i (a := i1) (b := quoi (len b) (16 : Int)))) ?_
       refine Tops_nil (tZ [0, 2, 4, 12, 13, 43] [0, 1, 2, 3] [0] rfl rfl rfl rfl ?_)
       rcases Bool.eq_false_or_eq_true (decide (i1 < (quoi (len b) (16 : Int)))) with hg6 | hg6
       ·replace h := br_t hg6 h
        refine Tk_condT (congrArg (fun b => some (Value.bool b)) hg6) ?_
        refine Tk_skip (Tk_seq (Tk_block (Tk_seq (Tk_drawT (by kernel_rfl) ?_))))
        refine TA_tb [0, 0, 0, 4, 0, 16, 48, 126, 254, 0, 0, 1024, 3072, 0, 8192, 24576, 65024, 131070, 262143, 524287] (by kernel_rfl) fun htb => ?_
        refine aZ [0, 2, 4, 12, 13] [0, 1, 2, 3] [0] rfl rfl rfl rfl ?_
        obtain ⟨hc1, h⟩ := chk_e h
        obtain ⟨number1, hx2, h⟩ := ob_e h
        obtain ⟨hc2, h⟩ := chk_e h
        obtain ⟨number2, hx3, h⟩ := ob_e h
        refine TA_seg (lo := 0) (hi := 18) htb rfl rfl (by kernel_rfl) (fun c L a w => ∃ (v1 : Value), ∃ (v2 : Value), Sat c ⟨[(0, some (.pointer (some ⟨b_sp0, 0, none⟩))), (2, some (vU32 tp2)), (4, some (vb1)), (12, some (vI (quoi (len b) (16 : Int)))), (13, some (vI i1)), (46, bif L 0 then some (.pointer (some ⟨b_sp0, 0, none⟩)) else none), (47, bif L 1 then some (vb1) else none), (48, bif L 2 then some (vI i1) else none), (49, bif L 3 then some (vI (wi ((16 : Int) * i1))) else none), (50, bif L 4 then some (vI i1) else none), (51, bif L 5 then some (vI (wi ((16 : Int) * i1))) else none), (52, bif L 6 then some (vI (wi ((wi ((16 : Int) * i1)) + (8 : Int)))) else none), (53, bif L 7 then some (v1) else none), (54, bif L 8 then some (vU64 number1) else none), (55, bif L 9 then some (vb1) else none), (56, bif L 10 then some (vI i1) else none), (57, bif L 11 then some (vI (wi ((16 : Int) * i1))) else none), (58, bif L 12 then some (vI (wi ((wi ((16 : Int) * i1)) + (8 : Int)))) else none), (59, bif L 13 then some (vI i1) else none), (60, bif L 14 then some (vI (wi ((16 : Int) * i1))) else none), (61, bif L 15 then some (vI (wi ((wi ((16 : Int) * i1)) + (12 : Int)))) else none), (62, bif L 16 then some (v2) else none), (63, bif L 17 then some (vU64 number2) else none)], [(some (cellsR b_sp0 105 [vsp01, vsp02, vsp03]) : Option Res), (some (rowS u8S vsp01 sp0.old) : Option Res), (some (rowS u8S vsp02 sp0.now) : Option Res), (some (rowS bS vsp03 sp0.fresh) : Option Res)], [Fact.sl u8S vb1 b, (bif L 7 then Fact.sl u8S v1 (sub b (wi ((16 : Int) * i1)) (wi ((wi ((16 : Int) * i1)) + (8 : Int)))) else Fact.tt), (bif L 16 then Fact.sl u8S v2 (sub b (wi ((wi ((16 : Int) * i1)) + (8 : Int))) (wi ((wi ((16 : Int) * i1)) + (12 : Int)))) else Fact.tt)]⟩ a w) [([], []), ([], [7, 8, 17]), ([], [3, 7, 8, 17]), ([2], [7, 8, 17]), ([], [5, 6, 7, 8, 17]), ([4], [6, 7, 8, 17]), ([4, 5], [7, 8, 17]), ([1, 2, 3, 4, 5, 6], [8, 17]), ([1, 2, 3, 4, 5, 6, 7], [17]), ([], [16, 17]), ([], [11, 12, 16, 17]), ([10], [12, 16, 17]), ([10, 11], [16, 17]), ([], [14, 15, 16, 17]), ([13], [15, 16, 17]), ([13, 14], [16, 17]), ([9, 10, 11, 12, 13, 14, 15], [17]), ([1, 2, 3, 4, 5, 6, 7, 8, 9, 10, 11, 12, 13, 14, 15, 16], [])] rfl (by kernel_rfl) ?_ (steps_cons ?_ (steps_cons ?_ (steps_cons ?_ (steps_cons ?_ (steps_cons ?_ (steps_cons ?_ (steps_cons ?_ (steps_cons ?_ (steps_cons ?_ (steps_cons ?_ (steps_cons ?_ (steps_cons ?_ (steps_cons ?_ (steps_cons ?_ (steps_cons ?_ (steps_cons ?_ (steps_cons ?_ (steps_cons ?_ (steps_nil))))))))))))))))))) ?_
        ·intro a w hs
         exact ⟨undef, undef, hs.startF [46, 47, 48, 49, 50, 51, 52, 53, 54, 55, 56, 57, 58, 59, 60, 61, 62, 63] [0, 1, 2, 3] [0, 1, 2] rfl rfl rfl rfl⟩
        ·intro L a w hv K Q hK
         obtain ⟨v1, v2, hs⟩ := hv
         refine wpOp_go rfl rfl hs (OpT_move rfl rfl rfl rfl) ?_
         rintro _ rfl a' w' hs'
         exact hK a' w' ⟨v1, v2, hs'.putF (i := 5) rfl [0, 1, 2, 3] [0, 1, 2] rfl rfl rfl rfl⟩
        ·intro L a w hv K Q hK
         obtain ⟨v1, v2, hs⟩ := hv
         refine wpOp_go rfl rfl hs (OpT_move rfl rfl rfl rfl) ?_
         rintro _ rfl a' w' hs'
         exact hK a' w' ⟨v1, v2, hs'.putF (i := 6) rfl [0, 1, 2, 3] [0, 1, 2] rfl rfl rfl rfl⟩
        ·intro L a w hv K Q hK
         obtain ⟨v1, v2, hs⟩ := hv
         refine wpOp_go rfl rfl hs (OpT_move rfl rfl rfl rfl) ?_
         rintro _ rfl a' w' hs'
         exact hK a' w' ⟨v1, v2, hs'.putF (i := 7) rfl [0, 1, 2, 3] [0, 1, 2] rfl rfl rfl rfl⟩
        ·intro L a w hv K Q hK
         obtain ⟨v1, v2, hs⟩ := hv
         refine wpOp_go rfl rfl hs (OpT_bin rfl rfl rfl rfl rfl (bin_mul_i (a := (16 : Int)) (b := i1))) ?_
         rintro _ rfl a' w' hs'
         exact hK a' w' ⟨v1, v2, hs'.putF (i := 8) rfl [0, 1, 2, 3] [0, 1, 2] rfl rfl rfl rfl⟩
        ·intro L a w hv K Q hK
         obtain ⟨v1, v2, hs⟩ := hv
         refine wpOp_go rfl rfl hs (OpT_move rfl rfl rfl rfl) ?_
         rintro _ rfl a' w' hs'
         exact hK a' w' ⟨v1, v2, hs'.putF (i := 9) rfl [0, 1, 2, 3] [0, 1, 2] rfl rfl rfl rfl⟩
        ·intro L a w hv K Q hK
         obtain ⟨v1, v2, hs⟩ := hv
         refine wpOp_go rfl rfl hs (OpT_bin rfl rfl rfl rfl rfl (bin_mul_i (a := (16 : Int)) (b := i1))) ?_
         rintro _ rfl a' w' hs'
         exact hK a' w' ⟨v1, v2, hs'.putF (i := 10) rfl [0, 1, 2, 3] [0, 1, 2] rfl rfl rfl rfl⟩
        ·intro L a w hv K Q hK
         obtain ⟨v1, v2, hs⟩ := hv
         refine wpOp_go rfl rfl hs (OpT_bin rfl rfl rfl rfl rfl (bin_add_i (a := wi ((16 : Int) * i1)) (b := (8 : Int)))) ?_
         rintro _ rfl a' w' hs'
         exact hK a' w' ⟨v1, v2, hs'.putF (i := 11) rfl [0, 1, 2, 3] [0, 1, 2] rfl rfl rfl rfl⟩
        ·intro L a w hv K Q hK
         obtain ⟨v1, v2, hs⟩ := hv
         refine wpOp_go rfl rfl hs (OpT_sliceLH (l := wi ((16 : Int) * i1)) (m := wi ((wi ((16 : Int) * i1)) + (8 : Int))) rfl rfl rfl rfl rfl rfl slF35 (i := 0) rfl hc1) ?_
         rintro _ ⟨v1', rfl⟩ a' w' hs'
         exact hK a' w' ⟨v1', v2, hs'.putF (i := 12) rfl [0, 1, 2, 3] [0, 3, 2] rfl rfl rfl rfl⟩
        ·intro L a w hv K Q hK
         obtain ⟨v1, v2, hs⟩ := hv
         refine wpOp_go rfl rfl hs (OpT_call (w_ref_number21 hx2) [] [1] rfl rfl rfl rfl rfl callee78 rfl rfl rfl rfl) ?_
         rintro _ ⟨_, _, _, ⟨rfl, rfl, rfl⟩, rfl⟩ a' w' hs'
         exact hK a' w' ⟨v1, v2, hs'.putF (i := 13) rfl [0, 1, 2, 3] [0, 1, 2] rfl rfl rfl rfl⟩
        ·intro L a w hv K Q hK
         obtain ⟨v1, v2, hs⟩ := hv
         refine wpOp_go rfl rfl hs (OpT_move rfl rfl rfl rfl) ?_
         rintro _ rfl a' w' hs'
         exact hK a' w' ⟨v1, v2, hs'.putF (i := 14) rfl [0, 1, 2, 3] [0, 1, 2] rfl rfl rfl rfl⟩
        ·intro L a w hv K Q hK
         obtain ⟨v1, v2, hs⟩ := hv
         refine wpOp_go rfl rfl hs (OpT_move rfl rfl rfl rfl) ?_
         rintro _ rfl a' w' hs'
         exact hK a' w' ⟨v1, v2, hs'.putF (i := 15) rfl [0, 1, 2, 3] [0, 1, 2] rfl rfl rfl rfl⟩
        ·intro L a w hv K Q hK
         obtain ⟨v1, v2, hs⟩ := hv
         refine wpOp_go rfl rfl hs (OpT_bin rfl rfl rfl rfl rfl (bin_mul_i (a := (16 : Int)) (b := i1))) ?_
         rintro _ rfl a' w' hs'
         exact hK a' w' ⟨v1, v2, hs'.putF (i := 16) rfl [0, 1, 2, 3] [0, 1, 2] rfl rfl rfl rfl⟩
        ·intro L a w hv K Q hK
         obtain ⟨v1, v2, hs⟩ := hv
         refine wpOp_go rfl rfl hs (OpT_bin rfl rfl rfl rfl rfl (bin_add_i (a := wi ((16 : Int) * i1)) (b := (8 : Int)))) ?_
         rintro _ rfl a' w' hs'
         exact hK a' w' ⟨v1, v2, hs'.putF (i := 17) rfl [0, 1, 2, 3] [0, 1, 2] rfl rfl rfl rfl⟩
        ·intro L a w hv K Q hK
         obtain ⟨v1, v2, hs⟩ := hv
         refine wpOp_go rfl rfl hs (OpT_move rfl rfl rfl rfl) ?_
         rintro _ rfl a' w' hs'
         exact hK a' w' ⟨v1, v2, hs'.putF (i := 18) rfl [0, 1, 2, 3] [0, 1, 2] rfl rfl rfl rfl⟩
        ·intro L a w hv K Q hK
         obtain ⟨v1, v2, hs⟩ := hv
         refine wpOp_go rfl rfl hs (OpT_bin rfl rfl rfl rfl rfl (bin_mul_i (a := (16 : Int)) (b := i1))) ?_
         rintro _ rfl a' w' hs'
         exact hK a' w' ⟨v1, v2, hs'.putF (i := 19) rfl [0, 1, 2, 3] [0, 1, 2] rfl rfl rfl rfl⟩
        ·intro L a w hv K Q hK
         obtain ⟨v1, v2, hs⟩ := hv
         refine wpOp_go rfl rfl hs (OpT_bin rfl rfl rfl rfl rfl (bin_add_i (a := wi ((16 : Int) * i1)) (b := (12 : Int)))) ?_
         rintro _ rfl a' w' hs'
         exact hK a' w' ⟨v1, v2, hs'.putF (i := 20) rfl [0, 1, 2, 3] [0, 1, 2] rfl rfl rfl rfl⟩
        ·intro L a w hv K Q hK
         obtain ⟨v1, v2, hs⟩ := hv
         refine wpOp_go rfl rfl hs (OpT_sliceLH (l := wi ((wi ((16 : Int) * i1)) + (8 : Int))) (m := wi ((wi ((16 : Int) * i1)) + (12 : Int))) rfl rfl rfl rfl rfl rfl slF35 (i := 0) rfl hc2) ?_
         rintro _ ⟨v2', rfl⟩ a' w' hs'
         exact hK a' w' ⟨v1, v2', hs'.putF (i := 21) rfl [0, 1, 2, 3] [0, 1, 3] rfl rfl rfl rfl⟩
        ·intro L a w hv K Q hK
         obtain ⟨v1, v2, hs⟩ := hv
         refine wpOp_go rfl rfl hs (OpT_call (w_ref_number21 hx3) [] [2] rfl rfl rfl rfl rfl callee78 rfl rfl rfl rfl) ?_
         rintro _ ⟨_, _, _, ⟨rfl, rfl, rfl⟩, rfl⟩ a' w' hs'
         exact hK a' w' ⟨v1, v2, hs'.putF (i := 22) rfl [0, 1, 2, 3] [0, 1, 2] rfl rfl rfl rfl⟩
        ·intro L a w hL hv
         rw [allTrue hL] at hv
         obtain ⟨v1, v2, hs⟩ := hv
         refine gZ hs [0, 2, 4, 12, 13, 46, 54, 63] [0, 1, 2, 3] [0] rfl rfl rfl rfl ?_
         clear hs hL
         obtain ⟨has2, hx4, h⟩ := ob_e h
         refine TA_exP htb (by kernel_rfl) rfl rfl (OpT_callP [4, 5, 6, 7] (w_ref_Store_Has20 hx4) [0, 1, 2, 3] [] rfl rfl rfl rfl rfl callee88 rfl rfl rfl rfl rfl) ?_
         rintro _ ⟨_, _, _, ⟨rfl, rfl, rfl⟩, rfl⟩
         refine TA_step htb (by kernel_rfl) rfl rfl (OpT_not rfl rfl rfl rfl) ?_
         refine TA_end rfl ?_
         refine tZ [0, 2, 4, 12, 13, 65] [0, 1, 2, 3] [0] rfl rfl rfl rfl ?_
         rcases Bool.eq_false_or_eq_true ((!has2)) with hg7 | hg7
         ·replace h := br_t hg7 h
          refine Tk_condT (congrArg (fun b => some (Value.bool b)) hg7) ?_
          refine Tk_seq (Tk_region (Tops_step rfl (OpT_assign rfl rfl rfl rfl) ?_))
          refine Tops_nil (tZ [10] [0, 1, 2, 3] [] rfl rfl rfl rfl ?_)
          obtain rfl := Option.some.inj h
          exact Tk_retV rfl rfl (resA (vs := [vU8 (1 : UInt8)]) rfl ⟨rfl, trivial⟩) [0, 1, 2, 3] [] rfl rfl rfl ⟨vsp01, vsp02, vsp03, rfl, rfl, rfl⟩
         ·replace h := br_f hg7 h
          refine Tk_condF (congrArg (fun b => some (Value.bool b)) hg7) ?_
          refine Tk_skip (Tk_blk (Tk_region (Tops_step rfl (OpT_move rfl rfl rfl rfl) ?_)))
          refine Tops_step rfl (OpT_bin rfl rfl rfl rfl rfl (bin_add_i (a := i1) (b := (1 : Int)))) ?_
          refine Tops_step rfl (OpT_assign rfl rfl rfl rfl) ?_
          refine Tops_nil (tZ [0, 2, 4, 12, 13] [0, 1, 2, 3] [0] rfl rfl rfl rfl ?_)
          exact Tk_backS (wi (i1 + (1 : Int))) h [0, 2, 4, 12, 13] [0, 1, 2, 3] [0] rfl rfl rfl rfl rfl
       ·replace h := br_f hg6 h
        refine Tk_condF (congrArg (fun b => some (Value.bool b)) hg6) ?_
        refine Tk_exit _ rfl ?_
        refine Tk_seq (Tk_seq (Tk_region (Tops_step rfl (OpT_assign rfl rfl rfl rfl) ?_)))
        refine Tops_nil (tZ [0, 2, 4, 12, 14] [0, 1, 2, 3] [0] rfl rfl rfl rfl ?_)
        refine Tk_block (Tk_loopS (σ := Int) [0, 2, 4, 12, 14] [0, 1, 2, 3] [0] (fun s => ⟨[(0, some (.pointer (some ⟨b_sp0, 0, none⟩))), (2, some (vU32 tp2)), (4, some (vb1)), (12, some (vI (quoi (len b) (16 : Int)))), (14, some (vI s))], [some (cellsR b_sp0 105 [vsp01, vsp02, vsp03]), some (rowS u8S vsp01 sp0.old), some (rowS u8S vsp02 sp0.now), some (rowS bS vsp03 sp0.fresh)], [Fact.sl u8S vb1 b]⟩) (fun nf3 s => ref_ranges21L3 sp0 tp2 b nf3 s = some r) fuel (0 : Int) h rfl rfl rfl rfl rfl (fun s h => by cases h) ?_)
        rintro nf3 i2 h
        replace h : ref_ranges21L3B sp0 tp2 b (ref_ranges21L3 sp0 tp2 b nf3) i2 = some r := h
        unfold ref_ranges21L3B at h
        refine Tk_seq (Tk_seq (Tk_region (Tops_step rfl (OpT_move rfl rfl rfl rfl) ?_)))
        refine Tops_step rfl (OpT_move rfl rfl rfl rfl) ?_
        refine Tops_step rfl (OpT_bin rfl rfl rfl rfl rfl (bin_lss_i (a := i2) (b := quoi (len b) (16 : Int)))) ?_
        refine Tops_nil (tZ [0, 2, 4, 12, 14, 68] [0, 1, 2, 3] [0] rfl rfl rfl rfl ?_)
        rcases Bool.eq_false_or_eq_true (decide (i2 < (quoi (len b) (16 : Int)))) with hg8 | hg8
        ·replace h := br_t hg8 h
         refine Tk_condT (congrArg (fun b => some (Value.bool b)) hg8) ?_
         refine Tk_skip (Tk_seq (Tk_block (Tk_seq (Tk_region (Tops_step rfl (OpT_move rfl rfl rfl rfl) ?_)))))
         refine Tops_step rfl (OpT_move rfl rfl rfl rfl) ?_
         refine Tops_step rfl (OpT_bin rfl rfl rfl rfl rfl (bin_mul_i (a := (16 : Int)) (b := i2))) ?_
         refine Tops_step rfl (OpT_bin rfl rfl rfl rfl rfl (bin_add_i (a := wi ((16 : Int) * i2)) (b := (12 : Int)))) ?_
         refine Tops_step rfl (OpT_move rfl rfl rfl rfl) ?_
         refine Tops_step rfl (OpT_bin rfl rfl rfl rfl rfl (bin_mul_i (a := (16 : Int)) (b := i2))) ?_
         refine Tops_step rfl (OpT_bin rfl rfl rfl rfl rfl (bin_add_i (a := wi ((16 : Int) * i2)) (b := (16 : Int)))) ?_
         obtain ⟨hc3, h⟩ := chk_e h
         refine Tops_ex rfl (OpT_sliceLH (l := wi ((wi ((16 : Int) * i2)) + (12 : Int))) (m := wi ((wi ((16 : Int) * i2)) + (16 : Int))) rfl rfl rfl rfl rfl rfl slF35 (i := 0) rfl hc3) fun v3 => ?_
         obtain ⟨number3, hx5, h⟩ := ob_e h
         refine Tops_exP rfl (OpT_call (w_ref_number21 hx5) [] [1] rfl rfl rfl rfl rfl callee78 rfl rfl rfl rfl) ?_
         rintro _ ⟨_, _, _, ⟨rfl, rfl, rfl⟩, rfl⟩
         refine Tops_step rfl (OpT_assign rfl rfl rfl rfl) ?_
         refine Tops_nil (tZ [0, 2, 4, 12, 14, 15] [0, 1, 2, 3] [0] rfl rfl rfl rfl ?_)
         refine Tk_seq (Tk_region (Tops_step rfl (OpT_move rfl rfl rfl rfl) ?_))
         refine Tops_step rfl (OpT_bin rfl rfl rfl rfl rfl (bin_gtr_u64 (a := number3) (b := (1 : UInt64)))) ?_
         refine Tops_step rfl (OpT_move rfl rfl rfl rfl) ?_
         rcases Bool.eq_false_or_eq_true (decide (number3 > (1 : UInt64))) with hg9 | hg9
         ·replace h := br_t hg9 h
          refine Tops_no rfl rfl (congrArg (fun b => some (Value.bool b)) hg9) rfl rfl ?_
          refine Tops_no rfl rfl (congrArg (fun b => some (Value.bool b)) hg9) rfl rfl ?_
          refine Tops_no rfl rfl (congrArg (fun b => some (Value.bool b)) hg9) rfl rfl ?_
          refine Tops_noU rfl rfl rfl rfl rfl ?_
          refine Tops_noU rfl rfl rfl rfl rfl ?_
          refine Tops_no rfl rfl (congrArg (fun b => some (Value.bool b)) hg9) rfl rfl ?_
          refine Tops_step rfl (OpT_pickT rfl rfl rfl (congrArg (fun b => some (Value.bool b)) hg9) rfl) ?_
          refine Tops_nil (tZ [0, 2, 4, 12, 14, 89] [0, 1, 2, 3] [0] rfl rfl rfl rfl ?_)
          refine Tk_condT rfl ?_
          refine Tk_seq (Tk_region (Tops_step rfl (OpT_assign rfl rfl rfl rfl) ?_))
          refine Tops_nil (tZ [10] [0, 1, 2, 3] [] rfl rfl rfl rfl ?_)
          obtain rfl := Option.some.inj h
          exact Tk_retV rfl rfl (resA (vs := [vU8 (2 : UInt8)]) rfl ⟨rfl, trivial⟩) [0, 1, 2, 3] [] rfl rfl rfl ⟨vsp01, vsp02, vsp03, rfl, rfl, rfl⟩
         ·replace h := br_f hg9 h
          refine Tops_yes rfl rfl (congrArg (fun b => some (Value.bool b)) hg9) (OpT_move rfl rfl rfl rfl) ?_
          rintro _ rfl
          refine Tops_yes rfl rfl (congrArg (fun b => some (Value.bool b)) hg9) (OpT_bin rfl rfl rfl rfl rfl (bin_eql_u64 (a := number3) (b := (1 : UInt64)))) ?_
          rintro _ rfl
          refine Tops_yes rfl rfl (congrArg (fun b => some (Value.bool b)) hg9) (OpT_move rfl rfl rfl rfl) ?_
          rintro _ rfl
          rcases Bool.eq_false_or_eq_true (number3 == (1 : UInt64)) with hg10 | hg10
          ·replace h := br_t hg10 h
           refine Tops_yes rfl rfl (congrArg (fun b => some (Value.bool b)) hg10) (OpT_move rfl rfl rfl rfl) ?_
           rintro _ rfl
           refine Tops_yes rfl rfl (congrArg (fun b => some (Value.bool b)) hg10) (OpT_bin rfl rfl rfl rfl rfl (bin_neq_u32 (a := tp2) (b := (13 : UInt32)))) ?_
           rintro _ rfl
           refine Tops_yes rfl rfl (congrArg (fun b => some (Value.bool b)) hg9) (OpT_pickT rfl rfl rfl (congrArg (fun b => some (Value.bool b)) hg10) rfl) ?_
           rintro _ rfl
           refine Tops_step rfl (OpT_pickF rfl rfl rfl (congrArg (fun b => some (Value.bool b)) hg9) rfl) ?_
           refine Tops_nil (tZ [0, 2, 4, 12, 14, 89] [0, 1, 2, 3] [0] rfl rfl rfl rfl ?_)
           rcases Bool.eq_false_or_eq_true (tp2 != (13 : UInt32)) with hg11 | hg11
           ·replace h := br_t hg11 h
            refine Tk_condT (congrArg (fun b => some (Value.bool b)) hg11) ?_
            refine Tk_seq (Tk_region (Tops_step rfl (OpT_assign rfl rfl rfl rfl) ?_))
            refine Tops_nil (tZ [10] [0, 1, 2, 3] [] rfl rfl rfl rfl ?_)
            obtain rfl := Option.some.inj h
            exact Tk_retV rfl rfl (resA (vs := [vU8 (2 : UInt8)]) rfl ⟨rfl, trivial⟩) [0, 1, 2, 3] [] rfl rfl rfl ⟨vsp01, vsp02, vsp03, rfl, rfl, rfl⟩
           ·replace h := br_f hg11 h
            refine Tk_condF (congrArg (fun b => some (Value.bool b)) hg11) ?_
            refine Tk_skip (Tk_blk (Tk_region (Tops_step rfl (OpT_move rfl rfl rfl rfl) ?_)))
            refine Tops_step rfl (OpT_bin rfl rfl rfl rfl rfl (bin_add_i (a := i2) (b := (1 : Int)))) ?_
            refine Tops_step rfl (OpT_assign rfl rfl rfl rfl) ?_
            refine Tops_nil (tZ [0, 2, 4, 12, 14] [0, 1, 2, 3] [0] rfl rfl rfl rfl ?_)
            exact Tk_backS (wi (i2 + (1 : Int))) h [0, 2, 4, 12, 14] [0, 1, 2, 3] [0] rfl rfl rfl rfl rfl
          ·replace h := br_f hg10 h
           refine Tops_no rfl rfl (congrArg (fun b => some (Value.bool b)) hg10) rfl rfl ?_
           refine Tops_no rfl rfl (congrArg (fun b => some (Value.bool b)) hg10) rfl rfl ?_
           refine Tops_yes rfl rfl (congrArg (fun b => some (Value.bool b)) hg9) (OpT_pickF rfl rfl rfl (congrArg (fun b => some (Value.bool b)) hg10) rfl) ?_
           rintro _ rfl
           refine Tops_step rfl (OpT_pickF rfl rfl rfl (congrArg (fun b => some (Value.bool b)) hg9) rfl) ?_
           refine Tops_nil (tZ [0, 2, 4, 12, 14, 89] [0, 1, 2, 3] [0] rfl rfl rfl rfl ?_)
           refine Tk_condF rfl ?_
           refine Tk_skip (Tk_blk (Tk_region (Tops_step rfl (OpT_move rfl rfl rfl rfl) ?_)))
           refine Tops_step rfl (OpT_bin rfl rfl rfl rfl rfl (bin_add_i (a := i2) (b := (1 : Int)))) ?_
           refine Tops_step rfl (OpT_assign rfl rfl rfl rfl) ?_
           refine Tops_nil (tZ [0, 2, 4, 12, 14] [0, 1, 2, 3] [0] rfl rfl rfl rfl ?_)
           exact Tk_backS (wi (i2 + (1 : Int))) h [0, 2, 4, 12, 14] [0, 1, 2, 3] [0] rfl rfl rfl rfl rfl
        ·replace h := br_f hg8 h
         refine Tk_condF (congrArg (fun b => some (Value.bool b)) hg8) ?_
         refine Tk_exit _ rfl ?_
         refine Tk_seq (Tk_seq (Tk_region (Tops_step rfl (OpT_assign rfl rfl rfl rfl) ?_)))
         refine Tops_nil (tZ [0, 4, 12, 16] [0, 1, 2, 3] [0] rfl rfl rfl rfl ?_)
         refine Tk_block (Tk_loopS (σ := (List UInt8) × (List UInt8) × (List Bool) × Int × Value × Value × Value) [0, 4, 12, 16] [0, 1, 2, 3] [0] (fun s => ⟨[(0, some (.pointer (some ⟨b_sp0, 0, none⟩))), (4, some (vb1)), (12, some (vI (quoi (len b) (16 : Int)))), (16, some (vI s.2.2.2.1))], [some (cellsR b_sp0 105 [s.2.2.2.2.1, s.2.2.2.2.2.1, s.2.2.2.2.2.2]), some (rowS u8S s.2.2.2.2.1 s.1), some (rowS u8S s.2.2.2.2.2.1 s.2.1), some (rowS bS s.2.2.2.2.2.2 s.2.2.1)], [Fact.sl u8S vb1 b]⟩) (fun nf4 s => ref_ranges21L4 b nf4 s.1 s.2.1 s.2.2.1 s.2.2.2.1 = some r) fuel (sp0.old, sp0.now, sp0.fresh, (0 : Int), vsp01, vsp02, vsp03) h rfl rfl rfl rfl rfl (fun s h => by cases h) ?_)
         rintro nf4 ⟨l1, l2, l3, i3, v4, v5, v6⟩ h
         replace h : ref_ranges21L4B b (ref_ranges21L4 b nf4) l1 l2 l3 i3 = some r := h
         unfold ref_ranges21L4B at h
         refine Tk_seq (Tk_seq (Tk_region (Tops_step rfl (OpT_move rfl rfl rfl rfl) ?_)))
         refine Tops_step rfl (OpT_move rfl rfl rfl rfl) ?_
         refine Tops_step rfl (OpT_bin rfl rfl rfl rfl rfl (bin_lss_i (a := i3) (b := quoi (len b) (16 : Int)))) ?_
         refine Tops_nil (tZ [0, 4, 12, 16, 92] [0, 1, 2, 3] [0] rfl rfl rfl rfl ?_)
         rcases Bool.eq_false_or_eq_true (decide (i3 < (quoi (len b) (16 : Int)))) with hg12 | hg12
         ·replace h := br_t hg12 h
          refine Tk_condT (congrArg (fun b => some (Value.bool b)) hg12) ?_
          refine Tk_skip (Tk_seq (Tk_block (Tk_drawT (by kernel_rfl) ?_)))
          refine TA_tb [0, 0, 0, 4, 0, 16, 48, 126, 254, 0, 0, 1024, 3072, 0, 8192, 24576, 65024, 131070, 262143] (by kernel_rfl) fun htb => ?_
          refine aZ [0, 4, 12, 16] [0, 1, 2, 3] [0] rfl rfl rfl rfl ?_
          obtain ⟨hc4, h⟩ := chk_e h
          obtain ⟨number4, hx6, h⟩ := ob_e h
          obtain ⟨hc5, h⟩ := chk_e h
          obtain ⟨number5, hx7, h⟩ := ob_e h
          refine TA_seg (lo := 0) (hi := 18) htb rfl rfl (by kernel_rfl) (fun c L a w => ∃ (v7 : Value), ∃ (v8 : Value), Sat c ⟨[(0, some (.pointer (some ⟨b_sp0, 0, none⟩))), (4, some (vb1)), (12, some (vI (quoi (len b) (16 : Int)))), (16, some (vI i3)), (95, bif L 0 then some (.pointer (some ⟨b_sp0, 0, none⟩)) else none), (96, bif L 1 then some (vb1) else none), (97, bif L 2 then some (vI i3) else none), (98, bif L 3 then some (vI (wi ((16 : Int) * i3))) else none), (99, bif L 4 then some (vI i3) else none), (100, bif L 5 then some (vI (wi ((16 : Int) * i3))) else none), (101, bif L 6 then some (vI (wi ((wi ((16 : Int) * i3)) + (8 : Int)))) else none), (102, bif L 7 then some (v7) else none), (103, bif L 8 then some (vU64 number4) else none), (104, bif L 9 then some (vb1) else none), (105, bif L 10 then some (vI i3) else none), (106, bif L 11 then some (vI (wi ((16 : Int) * i3))) else none), (107, bif L 12 then some (vI (wi ((wi ((16 : Int) * i3)) + (8 : Int)))) else none), (108, bif L 13 then some (vI i3) else none), (109, bif L 14 then some (vI (wi ((16 : Int) * i3))) else none), (110, bif L 15 then some (vI (wi ((wi ((16 : Int) * i3)) + (12 : Int)))) else none), (111, bif L 16 then some (v8) else none), (112, bif L 17 then some (vU64 number5) else none)], [(some (cellsR b_sp0 105 [v4, v5, v6]) : Option Res), (some (rowS u8S v4 l1) : Option Res), (some (rowS u8S v5 l2) : Option Res), (some (rowS bS v6 l3) : Option Res)], [Fact.sl u8S vb1 b, (bif L 7 then Fact.sl u8S v7 (sub b (wi ((16 : Int) * i3)) (wi ((wi ((16 : Int) * i3)) + (8 : Int)))) else Fact.tt), (bif L 16 then Fact.sl u8S v8 (sub b (wi ((wi ((16 : Int) * i3)) + (8 : Int))) (wi ((wi ((16 : Int) * i3)) + (12 : Int)))) else Fact.tt)]⟩ a w) [([], []), ([], [7, 8, 17]), ([], [3, 7, 8, 17]), ([2], [7, 8, 17]), ([], [5, 6, 7, 8, 17]), ([4], [6, 7, 8, 17]), ([4, 5], [7, 8, 17]), ([1, 2, 3, 4, 5, 6], [8, 17]), ([1, 2, 3, 4, 5, 6, 7], [17]), ([], [16, 17]), ([], [11, 12, 16, 17]), ([10], [12, 16, 17]), ([10, 11], [16, 17]), ([], [14, 15, 16, 17]), ([13], [15, 16, 17]), ([13, 14], [16, 17]), ([9, 10, 11, 12, 13, 14, 15], [17]), ([1, 2, 3, 4, 5, 6, 7, 8, 9, 10, 11, 12, 13, 14, 15, 16], [])] rfl (by kernel_rfl) ?_ (steps_cons ?_ (steps_cons ?_ (steps_cons ?_ (steps_cons ?_ (steps_cons ?_ (steps_cons ?_ (steps_cons ?_ (steps_cons ?_ (steps_cons ?_ (steps_cons ?_ (steps_cons ?_ (steps_cons ?_ (steps_cons ?_ (steps_cons ?_ (steps_cons ?_ (steps_cons ?_ (steps_cons ?_ (steps_cons ?_ (steps_nil))))))))))))))))))) ?_
          ·intro a w hs
           exact ⟨undef, undef, hs.startF [95, 96, 97, 98, 99, 100, 101, 102, 103, 104, 105, 106, 107, 108, 109, 110, 111, 112] [0, 1, 2, 3] [0, 1, 2] rfl rfl rfl rfl⟩
          ·intro L a w hv K Q hK
           obtain ⟨v7, v8, hs⟩ := hv
           refine wpOp_go rfl rfl hs (OpT_move rfl rfl rfl rfl) ?_
           rintro _ rfl a' w' hs'
           exact hK a' w' ⟨v7, v8, hs'.putF (i := 4) rfl [0, 1, 2, 3] [0, 1, 2] rfl rfl rfl rfl⟩
          ·intro L a w hv K Q hK
           obtain ⟨v7, v8, hs⟩ := hv
           refine wpOp_go rfl rfl hs (OpT_move rfl rfl rfl rfl) ?_
           rintro _ rfl a' w' hs'
           exact hK a' w' ⟨v7, v8, hs'.putF (i := 5) rfl [0, 1, 2, 3] [0, 1, 2] rfl rfl rfl rfl⟩
          ·intro L a w hv K Q hK
           obtain ⟨v7, v8, hs⟩ := hv
           refine wpOp_go rfl rfl hs (OpT_move rfl rfl rfl rfl) ?_
           rintro _ rfl a' w' hs'
           exact hK a' w' ⟨v7, v8, hs'.putF (i := 6) rfl [0, 1, 2, 3] [0, 1, 2] rfl rfl rfl rfl⟩
          ·intro L a w hv K Q hK
           obtain ⟨v7, v8, hs⟩ := hv
           refine wpOp_go rfl rfl hs (OpT_bin rfl rfl rfl rfl rfl (bin_mul_i (a := (16 : Int)) (b := i3))) ?_
           rintro _ rfl a' w' hs'
           exact hK a' w' ⟨v7, v8, hs'.putF (i := 7) rfl [0, 1, 2, 3] [0, 1, 2] rfl rfl rfl rfl⟩
          ·intro L a w hv K Q hK
           obtain ⟨v7, v8, hs⟩ := hv
           refine wpOp_go rfl rfl hs (OpT_move rfl rfl rfl rfl) ?_
           rintro _ rfl a' w' hs'
           exact hK a' w' ⟨v7, v8, hs'.putF (i := 8) rfl [0, 1, 2, 3] [0, 1, 2] rfl rfl rfl rfl⟩
          ·intro L a w hv K Q hK
           obtain ⟨v7, v8, hs⟩ := hv
           refine wpOp_go rfl rfl hs (OpT_bin rfl rfl rfl rfl rfl (bin_mul_i (a := (16 : Int)) (b := i3))) ?_
           rintro _ rfl a' w' hs'
           exact hK a' w' ⟨v7, v8, hs'.putF (i := 9) rfl [0, 1, 2, 3] [0, 1, 2] rfl rfl rfl rfl⟩
          ·intro L a w hv K Q hK
           obtain ⟨v7, v8, hs⟩ := hv
           refine wpOp_go rfl rfl hs (OpT_bin rfl rfl rfl rfl rfl (bin_add_i (a := wi ((16 : Int) * i3)) (b := (8 : Int)))) ?_
           rintro _ rfl a' w' hs'
           exact hK a' w' ⟨v7, v8, hs'.putF (i := 10) rfl [0, 1, 2, 3] [0, 1, 2] rfl rfl rfl rfl⟩
          ·intro L a w hv K Q hK
           obtain ⟨v7, v8, hs⟩ := hv
           refine wpOp_go rfl rfl hs (OpT_sliceLH (l := wi ((16 : Int) * i3)) (m := wi ((wi ((16 : Int) * i3)) + (8 : Int))) rfl rfl rfl rfl rfl rfl slF35 (i := 0) rfl hc4) ?_
           rintro _ ⟨v7', rfl⟩ a' w' hs'
           exact hK a' w' ⟨v7', v8, hs'.putF (i := 11) rfl [0, 1, 2, 3] [0, 3, 2] rfl rfl rfl rfl⟩
          ·intro L a w hv K Q hK
           obtain ⟨v7, v8, hs⟩ := hv
           refine wpOp_go rfl rfl hs (OpT_call (w_ref_number21 hx6) [] [1] rfl rfl rfl rfl rfl callee78 rfl rfl rfl rfl) ?_
           rintro _ ⟨_, _, _, ⟨rfl, rfl, rfl⟩, rfl⟩ a' w' hs'
           exact hK a' w' ⟨v7, v8, hs'.putF (i := 12) rfl [0, 1, 2, 3] [0, 1, 2] rfl rfl rfl rfl⟩
          ·intro L a w hv K Q hK
           obtain ⟨v7, v8, hs⟩ := hv
           refine wpOp_go rfl rfl hs (OpT_move rfl rfl rfl rfl) ?_
           rintro _ rfl a' w' hs'
           exact hK a' w' ⟨v7, v8, hs'.putF (i := 13) rfl [0, 1, 2, 3] [0, 1, 2] rfl rfl rfl rfl⟩
          ·intro L a w hv K Q hK
           obtain ⟨v7, v8, hs⟩ := hv
           refine wpOp_go rfl rfl hs (OpT_move rfl rfl rfl rfl) ?_
           rintro _ rfl a' w' hs'
           exact hK a' w' ⟨v7, v8, hs'.putF (i := 14) rfl [0, 1, 2, 3] [0, 1, 2] rfl rfl rfl rfl⟩
          ·intro L a w hv K Q hK
           obtain ⟨v7, v8, hs⟩ := hv
           refine wpOp_go rfl rfl hs (OpT_bin rfl rfl rfl rfl rfl (bin_mul_i (a := (16 : Int)) (b := i3))) ?_
           rintro _ rfl a' w' hs'
           exact hK a' w' ⟨v7, v8, hs'.putF (i := 15) rfl [0, 1, 2, 3] [0, 1, 2] rfl rfl rfl rfl⟩
          ·intro L a w hv K Q hK
           obtain ⟨v7, v8, hs⟩ := hv
           refine wpOp_go rfl rfl hs (OpT_bin rfl rfl rfl rfl rfl (bin_add_i (a := wi ((16 : Int) * i3)) (b := (8 : Int)))) ?_
           rintro _ rfl a' w' hs'
           exact hK a' w' ⟨v7, v8, hs'.putF (i := 16) rfl [0, 1, 2, 3] [0, 1, 2] rfl rfl rfl rfl⟩
          ·intro L a w hv K Q hK
           obtain ⟨v7, v8, hs⟩ := hv
           refine wpOp_go rfl rfl hs (OpT_move rfl rfl rfl rfl) ?_
           rintro _ rfl a' w' hs'
           exact hK a' w' ⟨v7, v8, hs'.putF (i := 17) rfl [0, 1, 2, 3] [0, 1, 2] rfl rfl rfl rfl⟩
          ·intro L a w hv K Q hK
           obtain ⟨v7, v8, hs⟩ := hv
           refine wpOp_go rfl rfl hs (OpT_bin rfl rfl rfl rfl rfl (bin_mul_i (a := (16 : Int)) (b := i3))) ?_
           rintro _ rfl a' w' hs'
           exact hK a' w' ⟨v7, v8, hs'.putF (i := 18) rfl [0, 1, 2, 3] [0, 1, 2] rfl rfl rfl rfl⟩
          ·intro L a w hv K Q hK
           obtain ⟨v7, v8, hs⟩ := hv
           refine wpOp_go rfl rfl hs (OpT_bin rfl rfl rfl rfl rfl (bin_add_i (a := wi ((16 : Int) * i3)) (b := (12 : Int)))) ?_
           rintro _ rfl a' w' hs'
           exact hK a' w' ⟨v7, v8, hs'.putF (i := 19) rfl [0, 1, 2, 3] [0, 1, 2] rfl rfl rfl rfl⟩
          ·intro L a w hv K Q hK
           obtain ⟨v7, v8, hs⟩ := hv
           refine wpOp_go rfl rfl hs (OpT_sliceLH (l := wi ((wi ((16 : Int) * i3)) + (8 : Int))) (m := wi ((wi ((16 : Int) * i3)) + (12 : Int))) rfl rfl rfl rfl rfl rfl slF35 (i := 0) rfl hc5) ?_
           rintro _ ⟨v8', rfl⟩ a' w' hs'
           exact hK a' w' ⟨v7, v8', hs'.putF (i := 20) rfl [0, 1, 2, 3] [0, 1, 3] rfl rfl rfl rfl⟩
          ·intro L a w hv K Q hK
           obtain ⟨v7, v8, hs⟩ := hv
           refine wpOp_go rfl rfl hs (OpT_call (w_ref_number21 hx7) [] [2] rfl rfl rfl rfl rfl callee78 rfl rfl rfl rfl) ?_
           rintro _ ⟨_, _, _, ⟨rfl, rfl, rfl⟩, rfl⟩ a' w' hs'
           exact hK a' w' ⟨v7, v8, hs'.putF (i := 21) rfl [0, 1, 2, 3] [0, 1, 2] rfl rfl rfl rfl⟩
          ·intro L a w hL hv
           rw [allTrue hL] at hv
           obtain ⟨v7, v8, hs⟩ := hv
           refine gZ hs [0, 4, 12, 16, 95, 103, 112] [0, 1, 2, 3] [0] rfl rfl rfl rfl ?_
           clear hs hL
           obtain ⟨zero1, hx8, h⟩ := ob_e h
           refine TA_exP htb (by kernel_rfl) rfl rfl (OpT_callP [4, 5, 6, 7] (w_ref_Store_Zero20 hx8) [0, 1, 2, 3] [] rfl rfl rfl rfl rfl callee89 rfl rfl rfl rfl rfl) ?_
           rintro _ ⟨_, _, _, ⟨v9, v10, v11, rfl, rfl, rfl⟩, rfl⟩
           refine TA_end rfl ?_
           refine tZ [0, 4, 12, 16] [0, 1, 2, 3] [0] rfl rfl rfl rfl ?_
           refine Tk_blk (Tk_region (Tops_step rfl (OpT_move rfl rfl rfl rfl) ?_))
           refine Tops_step rfl (OpT_bin rfl rfl rfl rfl rfl (bin_add_i (a := i3) (b := (1 : Int)))) ?_
           refine Tops_step rfl (OpT_assign rfl rfl rfl rfl) ?_
           refine Tops_nil (tZ [0, 4, 12, 16] [0, 1, 2, 3] [0] rfl rfl rfl rfl ?_)
           exact Tk_backS (zero1.2.old, zero1.2.now, zero1.2.fresh, wi (i3 + (1 : Int)), v9, v10, v11) h [0, 4, 12, 16] [0, 1, 2, 3] [0] rfl rfl rfl rfl rfl
         ·replace h := br_f hg12 h
          refine Tk_condF (congrArg (fun b => some (Value.bool b)) hg12) ?_
          refine Tk_exit _ rfl ?_
          refine Tk_seq (Tk_region (Tops_step rfl (OpT_assign rfl rfl rfl rfl) ?_))
          refine Tops_nil (tZ [10] [0, 1, 2, 3] [] rfl rfl rfl rfl ?_)
          obtain rfl := Option.some.inj h
          exact Tk_retV rfl rfl (resA (vs := [vU8 (0 : UInt8)]) rfl ⟨rfl, trivial⟩) [0, 1, 2, 3] [] rfl rfl rfl ⟨v4, v5, v6, rfl, rfl, rfl⟩
 ·intro HJ1
  rcases Bool.eq_false_or_eq_true (tp2 == (13 : UInt32)) with hg13 | hg13
  ·replace h := br_t hg13 h
   refine Tk_condT (congrArg (fun b => some (Value.bool b)) hg13) ?_
   refine Tk_region (Tops_step rfl (OpT_assign rfl rfl rfl rfl) ?_)
   refine Tops_nil (tZ [0, 1, 2, 3, 4, 11] [0, 1, 2, 3] [0] rfl rfl rfl rfl ?_)
   exact Tk_jmpS (HJ1 (14 : Int) h) [0, 1, 2, 3, 4, 11] [0, 1, 2, 3] [0] rfl rfl rfl rfl
  ·replace h := br_f hg13 h
   refine Tk_condF (congrArg (fun b => some (Value.bool b)) hg13) ?_
   refine Tk_skip ?_
   exact Tk_jmpS (HJ1 (13 : Int) h) [0, 1, 2, 3, 4, 11] [0, 1, 2, 3] [0] rfl rfl rfl rfl

set_option maxRecDepth 100000 in
set_option maxHeartbeats 4000000 in
theorem w_ref_Store_Read20 {sp0 : dumbwaiterref20_Store} {atp1 : UInt64} {np2 : Int} {b_sp0 : Nat} {vsp01 : Value} {vsp02 : Value} {vsp03 : Value} {r : ((List UInt8) × Int)} (h : ref_Store_Read20 sp0 atp1 np2 = some r) :
  Ctr Try.prog 80 #[.pointer (some ⟨b_sp0, 0, none⟩), vU64 atp1, vI np2] [(cellsR b_sp0 105 [vsp01, vsp02, vsp03]), (rowS u8S vsp01 sp0.old), (rowS u8S vsp02 sp0.now), (rowS bS vsp03 sp0.fresh)] []
   (fun rv own shr => ∃ (w1 : Value), rv = .tuple #[w1, vI r.2] ∧ own = [(cellsR b_sp0 105 [vsp01, vsp02, vsp03]), (rowS u8S vsp01 sp0.old), (rowS u8S vsp02 sp0.now), (rowS bS vsp03 sp0.fresh), (rowS u8S w1 r.1)] ∧ shr = []) := by
 unfold ref_Store_Read20 at h
 refine Ctr.mk (args := [.pointer (some ⟨b_sp0, 0, none⟩), vU64 atp1, vI np2]) Try.func80 rfl rfl (fun R0 w0 B => ?_)
 refine Tk_seq (Tk_region (Tops_step rfl (OpT_assign rfl rfl rfl rfl) ?_))
 refine Tops_step rfl (OpT_assign rfl rfl rfl rfl) ?_
 refine Tops_nil (tZ [0, 1, 2] [0, 1, 2, 3] [] rfl rfl rfl rfl ?_)
 refine Tk_seq (Tk_seq (Tk_region (Tops_step rfl (OpT_move rfl rfl rfl rfl) ?_)))
 refine Tops_step rfl (OpT_bin rfl rfl rfl rfl rfl (bin_lss_i (a := np2) (b := (0 : Int)))) ?_
 refine Tops_nil (tZ [0, 1, 2, 10] [0, 1, 2, 3] [] rfl rfl rfl rfl ?_)
 rcases Bool.eq_false_or_eq_true (decide (np2 < (0 : Int))) with hg1 | hg1
 ·replace h := br_t hg1 h
  refine Tk_condT (congrArg (fun b => some (Value.bool b)) hg1) ?_
  refine Tk_seq (Tk_region (Tops_step rfl (OpT_assign rfl rfl rfl rfl) ?_))
  refine Tops_step rfl (OpT_assign rfl rfl rfl rfl) ?_
  refine Tops_nil (tZ [6, 7] [0, 1, 2, 3] [] rfl rfl rfl rfl ?_)
  refine Tk_nilrow u8S ?_
  obtain rfl := Option.some.inj h
  exact Tk_retV rfl rfl (resA (vs := [.slice none 0 0, vI (2 : Int)]) rfl ⟨rfl, rfl, trivial⟩) [0, 1, 2, 3, 4] [] rfl rfl rfl ⟨(.slice none 0 0), rfl, rfl, rfl⟩
 ·replace h := br_f hg1 h
  refine Tk_condF (congrArg (fun b => some (Value.bool b)) hg1) ?_
  refine Tk_skip (Tk_seq (Tk_seq (Tk_region (Tops_step rfl (OpT_move rfl rfl rfl rfl) ?_))))
  refine Tops_step rfl (OpT_move rfl rfl rfl rfl) ?_
  refine Tops_step rfl (OpT_move rfl rfl rfl rfl) ?_
  refine Tops_step rfl (OpT_cnv rfl rfl rfl rfl (cnv_i_u64 (n := np2) Try.underlying3 Try.underlying29)) ?_
  obtain ⟨has1, hx1, h⟩ := ob_e h
  refine Tops_exP rfl (OpT_callP [4, 5, 6, 7] (w_ref_Store_Has20 hx1) [0, 1, 2, 3] [] rfl rfl rfl rfl rfl callee88 rfl rfl rfl rfl rfl) ?_
  rintro _ ⟨_, _, _, ⟨rfl, rfl, rfl⟩, rfl⟩
  refine Tops_step rfl (OpT_not rfl rfl rfl rfl) ?_
  refine Tops_nil (tZ [0, 1, 2, 16] [0, 1, 2, 3] [] rfl rfl rfl rfl ?_)
  rcases Bool.eq_false_or_eq_true ((!has1)) with hg2 | hg2
  ·replace h := br_t hg2 h
   refine Tk_condT (congrArg (fun b => some (Value.bool b)) hg2) ?_
   refine Tk_seq (Tk_region (Tops_step rfl (OpT_assign rfl rfl rfl rfl) ?_))
   refine Tops_step rfl (OpT_assign rfl rfl rfl rfl) ?_
   refine Tops_nil (tZ [6, 7] [0, 1, 2, 3] [] rfl rfl rfl rfl ?_)
   refine Tk_nilrow u8S ?_
   obtain rfl := Option.some.inj h
   exact Tk_retV rfl rfl (resA (vs := [.slice none 0 0, vI (5 : Int)]) rfl ⟨rfl, rfl, trivial⟩) [0, 1, 2, 3, 4] [] rfl rfl rfl ⟨(.slice none 0 0), rfl, rfl, rfl⟩
  ·replace h := br_f hg2 h
   refine Tk_condF (congrArg (fun b => some (Value.bool b)) hg2) ?_
   refine Tk_skip (Tk_seq (Tk_region (Tops_step rfl (OpT_move rfl rfl rfl rfl) ?_)))
   refine Tops_step rfl (OpT_cnv rfl rfl rfl rfl (cnv_u64_i (n := atp1) Try.underlying29 Try.underlying3)) ?_
   refine Tops_step rfl (OpT_bin rfl rfl rfl rfl rfl (bin_mul_i (a := i64 atp1) (b := (512 : Int)))) ?_
   refine Tops_step rfl (OpT_assign rfl rfl rfl rfl) ?_
   refine Tops_nil (tZ [0, 2, 8] [0, 1, 2, 3] [] rfl rfl rfl rfl ?_)
   refine Tk_seq (Tk_region (Tops_ex rfl (OpT_buildSlice (S := u8S) (xs := ([] : List UInt8)) (css := []) (cs := []) (e := 5) rfl rfl rfl rfl (bldF slF35 (by decide) (by kernel_rfl)) rfl rfl rfl rfl (rel_plainD (S := u8S) (xs := ([] : List UInt8)) (css := []) rfl rfl)) fun v1 => ?_))
   refine Tops_step rfl (OpT_move rfl rfl rfl rfl) ?_
   refine Tops_step rfl (OpT_nilCheckP rfl rfl rfl rfl) ?_
   refine Tops_step rfl (OpT_fieldC rfl rfl rfl rfl fldF105x1) ?_
   refine Tops_step rfl (OpT_loadC rfl rfl rfl rfl tyF35 (i := 0) rfl rfl) ?_
   refine Tops_step rfl (OpT_move rfl rfl rfl rfl) ?_
   refine Tops_step rfl (OpT_move rfl rfl rfl rfl) ?_
   refine Tops_step rfl (OpT_move rfl rfl rfl rfl) ?_
   refine Tops_step rfl (OpT_bin rfl rfl rfl rfl rfl (bin_mul_i (a := np2) (b := (512 : Int)))) ?_
   refine Tops_step rfl (OpT_bin rfl rfl rfl rfl rfl (bin_add_i (a := wi ((i64 atp1) * (512 : Int))) (b := wi (np2 * (512 : Int))))) ?_
   obtain ⟨hc1, h⟩ := chk_e h
   refine Tops_step rfl (OpT_subLH (S := u8S) (l := wi ((i64 atp1) * (512 : Int))) (m := wi ((wi ((i64 atp1) * (512 : Int))) + (wi (np2 * (512 : Int))))) rfl rfl rfl rfl rfl rfl slF35 (i := 2) rfl hc1) ?_
   obtain ⟨hc2, h⟩ := chk_e h
   refine Tops_ex rfl (OpT_nil0 (OpT_appendBs (S := u8S) (l := (wi ((i64 atp1) * (512 : Int)))) (m := (wi ((wi ((i64 atp1) * (512 : Int))) + (wi (np2 * (512 : Int)))))) rfl rfl rfl rfl rfl rfl slF35 (i := 4) (j := 2) rfl rfl hc1 hc2)) fun v2 => ?_
   refine Tops_step rfl (OpT_assign rfl rfl rfl rfl) ?_
   refine Tops_step rfl (OpT_assign rfl rfl rfl rfl) ?_
   refine Tops_nil (tZ [6, 7] [0, 1, 2, 3, 4] [] rfl rfl rfl rfl ?_)
   obtain rfl := Option.some.inj h
   exact Tk_retV rfl rfl (resA (vs := [v2, vI (0 : Int)]) rfl ⟨rfl, rfl, trivial⟩) [0, 1, 2, 3, 4] [] rfl rfl rfl ⟨v2, rfl, rfl, rfl⟩

set_option maxRecDepth 100000 in
set_option maxHeartbeats 4000000 in
theorem w_ref_Store_Flush20 {sp0 : dumbwaiterref20_Store} {b_sp0 : Nat} {vsp01 : Value} {vsp02 : Value} {vsp03 : Value} {r : (Int × dumbwaiterref20_Store)} (h : ref_Store_Flush20 sp0 = some r) :
  Ctr Try.prog 82 #[.pointer (some ⟨b_sp0, 0, none⟩)] [(cellsR b_sp0 105 [vsp01, vsp02, vsp03]), (rowS u8S vsp01 sp0.old), (rowS u8S vsp02 sp0.now), (rowS bS vsp03 sp0.fresh)] []
   (fun rv own shr => ∃ (w1 : Value), ∃ (w2 : Value), ∃ (w3 : Value), rv = vI r.1 ∧ own = [(cellsR b_sp0 105 [w1, w2, w3]), (rowS u8S w1 r.2.old), (rowS u8S w2 r.2.now), (rowS bS w3 r.2.fresh)] ∧ shr = []) := by
 unfold ref_Store_Flush20 at h
 refine Ctr.mk (args := [.pointer (some ⟨b_sp0, 0, none⟩)]) Try.func82 rfl rfl (fun R0 w0 B => ?_)
 refine Tk_seq (Tk_region (Tops_step rfl (OpT_assign rfl rfl rfl rfl) ?_))
 refine Tops_nil (tZ [0] [0, 1, 2, 3] [] rfl rfl rfl rfl ?_)
 refine Tk_seq (Tk_drawT (by kernel_rfl) ?_)
 refine TA_tb [0, 0, 0, 0, 8, 24, 56, 124, 0, 256, 768, 1792, 3840, 7936, 4093, 20477, 53245, 131071, 262143, 524287] (by kernel_rfl) fun htb => ?_
 obtain ⟨hc1, h⟩ := chk_e h
 obtain ⟨hc2, h⟩ := chk_e h
 refine TA_seg (lo := 0) (hi := 17) htb rfl rfl (by kernel_rfl) (fun c L a w => ∃ (v1 : Value), ∃ (v2 : Value), ∃ (v3 : Value), Sat c ⟨[(0, some (.pointer (some ⟨b_sp0, 0, none⟩))), (3, bif L 0 then some (.pointer (some ⟨b_sp0, 0, none⟩)) else none), (4, bif L 1 then some (.pointer (some ⟨b_sp0, 0, none⟩)) else none), (5, bif L 2 then some (v1) else none), (6, bif L 3 then some (.pointer (some ⟨b_sp0, 0, none⟩)) else none), (7, bif L 4 then some (.pointer (some ⟨b_sp0, 0, none⟩)) else none), (8, bif L 5 then some (.pointer (some ⟨b_sp0, 1, none⟩)) else none), (9, bif L 6 then some (vsp02) else none), (10, bif L 7 then some (v2) else none), (11, bif L 8 then some (.pointer (some ⟨b_sp0, 0, none⟩)) else none), (12, bif L 9 then some (.pointer (some ⟨b_sp0, 0, none⟩)) else none), (13, bif L 10 then some (.pointer (some ⟨b_sp0, 2, none⟩)) else none), (14, bif L 11 then some (vsp03) else none), (15, bif L 12 then some (vI (len sp0.fresh)) else none), (16, bif L 13 then some (v3) else none), (17, bif L 14 then some (.pointer (some ⟨b_sp0, 0, none⟩)) else none), (18, bif L 15 then some (.pointer (some ⟨b_sp0, 0, none⟩)) else none)], [(bif L 16 then some (cellsR b_sp0 105 [v2, vsp02, vsp03]) else some (cellsR b_sp0 105 [vsp01, vsp02, vsp03]) : Option Res), (some (rowS u8S vsp01 sp0.old) : Option Res), (some (rowS u8S vsp02 sp0.now) : Option Res), (some (rowS bS vsp03 sp0.fresh) : Option Res), (bif L 7 then some (rowS u8S v2 sp0.now) else bif L 2 then some (rowS u8S v1 ([] : List UInt8)) else none : Option Res), (bif L 13 then some (rowS bS v3 (List.replicate (len sp0.fresh).toNat false)) else none : Option Res)], []⟩ a w) [([], [14, 15, 16]), ([], []), ([], [7, 14, 15, 16]), ([], [4, 5, 6, 7, 14, 15, 16]), ([3], [5, 6, 7, 14, 15, 16]), ([3, 4], [6, 7, 14, 15, 16]), ([3, 4, 5], [7, 14, 15, 16]), ([2, 3, 4, 5, 6], [14, 15, 16]), ([], [9, 10, 11, 12, 13, 14, 15, 16]), ([8], [10, 11, 12, 13, 14, 15, 16]), ([8, 9], [11, 12, 13, 14, 15, 16]), ([8, 9, 10], [12, 13, 14, 15, 16]), ([8, 9, 10, 11], [13]), ([8, 9, 10, 11, 12], []), ([0, 2, 3, 4, 5, 6, 7, 8, 9, 10, 11], [15, 16]), ([0, 2, 3, 4, 5, 6, 7, 8, 9, 10, 11, 14], [16]), ([0, 2, 3, 4, 5, 6, 7, 8, 9, 10, 11, 14, 15], [])] rfl (by kernel_rfl) ?_ (steps_cons ?_ (steps_cons ?_ (steps_cons ?_ (steps_cons ?_ (steps_cons ?_ (steps_cons ?_ (steps_cons ?_ (steps_cons ?_ (steps_cons ?_ (steps_cons ?_ (steps_cons ?_ (steps_cons ?_ (steps_cons ?_ (steps_cons ?_ (steps_cons ?_ (steps_cons ?_ (steps_cons ?_ (steps_nil)))))))))))))))))) ?_
 ·intro a w hs
  exact ⟨undef, undef, undef, hs.startF [3, 4, 5, 6, 7, 8, 9, 10, 11, 12, 13, 14, 15, 16, 17, 18] [0, 1, 2, 3, 4, 5] [] rfl rfl rfl rfl⟩
 ·intro L a w hv K Q hK
  obtain ⟨v1, v2, v3, hs⟩ := hv
  refine wpOp_go rfl rfl hs (OpT_move rfl rfl rfl rfl) ?_
  rintro _ rfl a' w' hs'
  exact hK a' w' ⟨v1, v2, v3, hs'.putF (i := 1) rfl [0, 1, 2, 3, 4, 5] [] rfl rfl rfl rfl⟩
 ·intro L a w hv K Q hK
  obtain ⟨v1, v2, v3, hs⟩ := hv
  refine wpOp_go rfl rfl hs (OpT_move rfl rfl rfl rfl) ?_
  rintro _ rfl a' w' hs'
  exact hK a' w' ⟨v1, v2, v3, hs'.putF (i := 2) rfl [0, 1, 2, 3, 4, 5] [] rfl rfl rfl rfl⟩
 ·intro L a w hv K Q hK
  obtain ⟨v1, v2, v3, hs⟩ := hv
  refine wpOp_go rfl rfl hs (OpT_buildSlice (S := u8S) (xs := ([] : List UInt8)) (css := []) (cs := []) (e := 5) rfl rfl rfl rfl (bldF slF35 (by decide) (by kernel_rfl)) rfl rfl rfl rfl (rel_plainD (S := u8S) (xs := ([] : List UInt8)) (css := []) rfl rfl)) ?_
  rintro _ ⟨v1', rfl⟩ a' w' hs'
  exact hK a' w' ⟨v1', v2, v3, hs'.putF (i := 3) rfl [0, 1, 2, 3, 6, 5] [] rfl rfl rfl rfl⟩
 ·intro L a w hv K Q hK
  obtain ⟨v1, v2, v3, hs⟩ := hv
  refine wpOp_go rfl rfl hs (OpT_move rfl rfl rfl rfl) ?_
  rintro _ rfl a' w' hs'
  exact hK a' w' ⟨v1, v2, v3, hs'.putF (i := 4) rfl [0, 1, 2, 3, 4, 5] [] rfl rfl rfl rfl⟩
 ·intro L a w hv K Q hK
  obtain ⟨v1, v2, v3, hs⟩ := hv
  refine wpOp_go rfl rfl hs (OpT_nilCheckP rfl rfl rfl rfl) ?_
  rintro _ rfl a' w' hs'
  exact hK a' w' ⟨v1, v2, v3, hs'.putF (i := 5) rfl [0, 1, 2, 3, 4, 5] [] rfl rfl rfl rfl⟩
 ·intro L a w hv K Q hK
  obtain ⟨v1, v2, v3, hs⟩ := hv
  refine wpOp_go rfl rfl hs (OpT_fieldC rfl rfl rfl rfl fldF105x1) ?_
  rintro _ rfl a' w' hs'
  exact hK a' w' ⟨v1, v2, v3, hs'.putF (i := 6) rfl [0, 1, 2, 3, 4, 5] [] rfl rfl rfl rfl⟩
 ·intro L a w hv K Q hK
  obtain ⟨v1, v2, v3, hs⟩ := hv
  refine wpOp_go rfl rfl hs (OpT_loadC rfl rfl rfl rfl tyF35 (i := 0) rfl rfl) ?_
  rintro _ rfl a' w' hs'
  exact hK a' w' ⟨v1, v2, v3, hs'.putF (i := 7) rfl [0, 1, 2, 3, 4, 5] [] rfl rfl rfl rfl⟩
 ·intro L a w hv K Q hK
  obtain ⟨v1, v2, v3, hs⟩ := hv
  refine wpOp_go rfl rfl hs (OpT_appendB (S := u8S) rfl rfl rfl rfl rfl rfl slF35 (i := 4) (j := 2) rfl rfl hc1) ?_
  rintro _ ⟨v2', rfl⟩ a' w' hs'
  exact hK a' w' ⟨v1, v2', v3, hs'.putF (i := 8) rfl [0, 1, 2, 3, 4, 5] [] rfl rfl rfl rfl⟩
 ·intro L a w hv K Q hK
  obtain ⟨v1, v2, v3, hs⟩ := hv
  refine wpOp_go rfl rfl hs (OpT_move rfl rfl rfl rfl) ?_
  rintro _ rfl a' w' hs'
  exact hK a' w' ⟨v1, v2, v3, hs'.putF (i := 9) rfl [0, 1, 2, 3, 4, 5] [] rfl rfl rfl rfl⟩
 ·intro L a w hv K Q hK
  obtain ⟨v1, v2, v3, hs⟩ := hv
  refine wpOp_go rfl rfl hs (OpT_nilCheckP rfl rfl rfl rfl) ?_
  rintro _ rfl a' w' hs'
  exact hK a' w' ⟨v1, v2, v3, hs'.putF (i := 10) rfl [0, 1, 2, 3, 4, 5] [] rfl rfl rfl rfl⟩
 ·intro L a w hv K Q hK
  obtain ⟨v1, v2, v3, hs⟩ := hv
  refine wpOp_go rfl rfl hs (OpT_fieldC rfl rfl rfl rfl fldF105x2) ?_
  rintro _ rfl a' w' hs'
  exact hK a' w' ⟨v1, v2, v3, hs'.putF (i := 11) rfl [0, 1, 2, 3, 4, 5] [] rfl rfl rfl rfl⟩
 ·intro L a w hv K Q hK
  obtain ⟨v1, v2, v3, hs⟩ := hv
  refine wpOp_go rfl rfl hs (OpT_loadC rfl rfl rfl rfl tyF103 (i := 0) rfl rfl) ?_
  rintro _ rfl a' w' hs'
  exact hK a' w' ⟨v1, v2, v3, hs'.putF (i := 12) rfl [0, 1, 2, 3, 4, 5] [] rfl rfl rfl rfl⟩
 ·intro L a w hv K Q hK
  obtain ⟨v1, v2, v3, hs⟩ := hv
  refine wpOp_go rfl rfl hs (OpT_lenO rfl rfl rfl rfl Try.underlying103 (i := 3) rfl) ?_
  rintro _ rfl a' w' hs'
  exact hK a' w' ⟨v1, v2, v3, hs'.putF (i := 13) rfl [0, 1, 2, 3, 4, 5] [] rfl rfl rfl rfl⟩
 ·intro L a w hv K Q hK
  obtain ⟨v1, v2, v3, hs⟩ := hv
  refine wpOp_go rfl rfl hs (OpT_makeD bS rfl (u := false) rfl rfl rfl rfl rfl slF103 rfl hc2) ?_
  rintro _ ⟨v3', rfl⟩ a' w' hs'
  exact hK a' w' ⟨v1, v2, v3', hs'.putF (i := 14) rfl [0, 1, 2, 3, 4, 6] [] rfl rfl rfl rfl⟩
 ·intro L a w hv K Q hK
  obtain ⟨v1, v2, v3, hs⟩ := hv
  refine wpOp_go rfl rfl hs (OpT_nilCheckP rfl rfl rfl rfl) ?_
  rintro _ rfl a' w' hs'
  exact hK a' w' ⟨v1, v2, v3, hs'.putF (i := 15) rfl [0, 1, 2, 3, 4, 5] [] rfl rfl rfl rfl⟩
 ·intro L a w hv K Q hK
  obtain ⟨v1, v2, v3, hs⟩ := hv
  refine wpOp_go rfl rfl hs (OpT_fieldC rfl rfl rfl rfl fldF105x0) ?_
  rintro _ rfl a' w' hs'
  exact hK a' w' ⟨v1, v2, v3, hs'.putF (i := 16) rfl [0, 1, 2, 3, 4, 5] [] rfl rfl rfl rfl⟩
 ·intro L a w hv K Q hK
  obtain ⟨v1, v2, v3, hs⟩ := hv
  refine wpOp_go rfl rfl hs (OpT_storeV (cs' := [v2, vsp02, vsp03]) rfl rfl rfl rfl tyF35 (i := 0) rfl (is_row (i := 4) rfl) rfl rfl) ?_
  rintro _ rfl a' w' hs'
  exact hK a' w' ⟨v1, v2, v3, hs'.sameF [0, 1, 2, 3, 4, 5] [] rfl rfl rfl rfl⟩
 ·intro L a w hL hv
  rw [allTrue hL] at hv
  obtain ⟨v1, v2, v3, hs⟩ := hv
  refine gZ hs [4, 16] [0, 2, 3, 4, 5] [] rfl rfl rfl rfl ?_
  clear hs hL
  refine TA_step htb (by kernel_rfl) rfl rfl (OpT_nilCheckP rfl rfl rfl rfl) ?_
  refine TA_step htb (by kernel_rfl) rfl rfl (OpT_fieldC rfl rfl rfl rfl fldF105x2) ?_
  refine TA_step htb (by kernel_rfl) rfl rfl (OpT_storeV (cs' := [v2, vsp02, v3]) rfl rfl rfl rfl tyF103 (i := 0) rfl (is_row (i := 4) rfl) rfl rfl) ?_
  refine TA_end rfl ?_
  refine tZ [] [0, 1, 3, 4] [] rfl rfl rfl rfl ?_
  refine Tk_seq (Tk_region (Tops_step rfl (OpT_assign rfl rfl rfl rfl) ?_))
  refine Tops_nil ?_
  obtain rfl := Option.some.inj h
  exact Tk_retV rfl rfl (resA (vs := [vI (0 : Int)]) rfl ⟨rfl, trivial⟩) [0, 2, 1, 3] [] rfl rfl rfl ⟨v2, vsp02, v3, rfl, rfl, rfl⟩

set_option maxRecDepth 100000 in
set_option maxHeartbeats 4000000 in
theorem w_ref_apply21 {sp0 : dumbwaiterref20_Store} {feats : UInt64} {name : List UInt8} {rp3 : Req} {b : List UInt8} {b_sp0 : Nat} {vsp01 : Value} {vsp02 : Value} {vsp03 : Value} {vrp31 : Value} {vrp32 : Value} {vb1 : Value} {r : ((List UInt8) × UInt8 × dumbwaiterref20_Store)} (h : ref_apply21 sp0 feats name rp3 b = some r) :
  Ctr Try.prog 66 #[.pointer (some ⟨b_sp0, 0, none⟩), vU64 feats, vS name, .agg #[vU32 rp3.Type_, vU64 rp3.Sector, vrp31, vI rp3.Room, vrp32], vb1] [(cellsR b_sp0 105 [vsp01, vsp02, vsp03]), (rowS u8S vsp01 sp0.old), (rowS u8S vsp02 sp0.now), (rowS bS vsp03 sp0.fresh)] [Fact.sl u8S vrp31 rp3.Data, Fact.sl RangeS vrp32 rp3.Ranges, Fact.sl u8S vb1 b]
   (fun rv own shr => ∃ (w1 : Value), ∃ (w2 : Value), ∃ (w3 : Value), ∃ (w4 : Value), rv = .tuple #[w1, vU8 r.2.1] ∧ own = [(cellsR b_sp0 105 [w2, w3, w4]), (rowS u8S w2 r.2.2.old), (rowS u8S w3 r.2.2.now), (rowS bS w4 r.2.2.fresh), (rowS u8S w1 r.1)] ∧ shr = []) := by
 unfold ref_apply21 at h
 refine Ctr.mk (args := [.pointer (some ⟨b_sp0, 0, none⟩), vU64 feats, vS name, .agg #[vU32 rp3.Type_, vU64 rp3.Sector, vrp31, vI rp3.Room, vrp32], vb1]) Try.func66 rfl rfl (fun R0 w0 B => ?_)
 refine Tk_seq (Tk_region (Tops_ex rfl (OpT_box rfl rfl rfl rfl) fun b1 => ?_))
 refine Tops_step rfl (OpT_assign rfl rfl rfl rfl) ?_
 refine Tops_step rfl (OpT_assign rfl rfl rfl rfl) ?_
 refine Tops_nil (tZ [0, 1, 2, 4, 8] [0, 1, 2, 3, 4] [0, 1, 2] rfl rfl rfl rfl ?_)
 refine Tk_seq (Tk_region (Tops_step rfl (OpT_move rfl rfl rfl rfl) ?_))
 obtain ⟨has1, hx1, h⟩ := ob_e h
 refine Tops_exP rfl (OpT_call (w_ref_Has06 hx1) [] [] rfl rfl rfl rfl rfl callee79 rfl rfl rfl rfl) ?_
 rintro _ ⟨_, _, _, ⟨rfl, rfl, rfl⟩, rfl⟩
 refine Tops_step rfl (OpT_assign rfl rfl rfl rfl) ?_
 refine Tops_nil (tZ [0, 1, 2, 4, 8, 12] [0, 1, 2, 3, 4] [0, 1, 2] rfl rfl rfl rfl ?_)
 refine Tk_seq (Tk_seq (Tk_region (Tops_step rfl (OpT_fieldC rfl rfl rfl rfl fldF38x0) ?_)))
 refine Tops_step rfl (OpT_loadC rfl rfl rfl rfl tyF30 (i := 4) rfl rfl) ?_
 refine Tops_nil (tZ [0, 1, 2, 4, 8, 12, 19] [0, 1, 2, 3, 4] [0, 1, 2] rfl rfl rfl rfl ?_)
 refine Tk_block (Tk_seq (Tk_region (Tops_step rfl (OpT_bin rfl rfl rfl rfl rfl (bin_eql_u32 (a := rp3.Type_) (b := (0 : UInt32)))) ?_)))
 refine Tops_step rfl (OpT_assign rfl rfl rfl rfl) ?_
 refine Tops_nil (tZ [0, 1, 2, 4, 8, 12, 19, 20] [0, 1, 2, 3, 4] [0, 1, 2] rfl rfl rfl rfl ?_)
 rcases Bool.eq_false_or_eq_true (rp3.Type_ == (0 : UInt32)) with hg1 | hg1
 ·replace h := br_t hg1 h
  refine Tk_condT (congrArg (fun b => some (Value.bool b)) hg1) ?_
  refine Tk_seq (Tk_seq (Tk_region (Tops_step rfl (OpT_fieldC rfl rfl rfl rfl fldF38x3) ?_)))
  refine Tops_step rfl (OpT_loadC rfl rfl rfl rfl tyF3 (i := 4) rfl rfl) ?_
  refine Tops_step rfl (OpT_bin rfl rfl rfl rfl rfl (bin_rem_i (a := rp3.Room) (b := (512 : Int)) rfl)) ?_
  refine Tops_step rfl (OpT_bin rfl rfl rfl rfl rfl (bin_neq_i (a := remi rp3.Room (512 : Int)) (b := (0 : Int)))) ?_
  refine Tops_nil (tZ [0, 8, 25] [0, 1, 2, 3, 4] [0, 1] rfl rfl rfl rfl ?_)
  rcases Bool.eq_false_or_eq_true ((remi rp3.Room (512 : Int)) != (0 : Int)) with hg2 | hg2
  ·replace h := br_t hg2 h
   refine Tk_condT (congrArg (fun b => some (Value.bool b)) hg2) ?_
   refine Tk_seq (Tk_region (Tops_step rfl (OpT_assign rfl rfl rfl rfl) ?_))
   refine Tops_step rfl (OpT_assign rfl rfl rfl rfl) ?_
   refine Tops_nil (tZ [10, 11] [0, 1, 2, 3] [] rfl rfl rfl rfl ?_)
   refine Tk_nilrow u8S ?_
   obtain rfl := Option.some.inj h
   exact Tk_retV rfl rfl (resA (vs := [.slice none 0 0, vU8 (1 : UInt8)]) rfl ⟨rfl, rfl, trivial⟩) [0, 1, 2, 3, 4] [] rfl rfl rfl ⟨(.slice none 0 0), vsp01, vsp02, vsp03, rfl, rfl, rfl⟩
  ·replace h := br_f hg2 h
   refine Tk_condF (congrArg (fun b => some (Value.bool b)) hg2) ?_
   refine Tk_skip (Tk_seq (Tk_region (Tops_step rfl (OpT_move rfl rfl rfl rfl) ?_)))
   refine Tops_step rfl (OpT_fieldC rfl rfl rfl rfl fldF38x1) ?_
   refine Tops_step rfl (OpT_loadC rfl rfl rfl rfl tyF29 (i := 4) rfl rfl) ?_
   refine Tops_step rfl (OpT_fieldC rfl rfl rfl rfl fldF38x3) ?_
   refine Tops_step rfl (OpT_loadC rfl rfl rfl rfl tyF3 (i := 4) rfl rfl) ?_
   refine Tops_step rfl (OpT_bin rfl rfl rfl rfl rfl (bin_quo_i (a := rp3.Room) (b := (512 : Int)) rfl)) ?_
   obtain ⟨read1, hx2, h⟩ := ob_e h
   refine Tops_exP rfl (OpT_callP [5, 6, 7, 8, 4, 9] (w_ref_Store_Read20 hx2) [0, 1, 2, 3] [] rfl rfl rfl rfl rfl callee80 rfl rfl rfl rfl rfl) ?_
   rintro _ ⟨_, _, _, ⟨v1, rfl, rfl, rfl⟩, rfl⟩
   refine Tops_step rfl (OpT_move rfl rfl rfl rfl) ?_
   refine Tops_step rfl (OpT_extract rfl rfl rfl rfl rfl) ?_
   refine Tops_step rfl (OpT_extract rfl rfl rfl rfl rfl) ?_
   refine Tops_step rfl (OpT_assign rfl rfl rfl rfl) ?_
   refine Tops_step rfl (OpT_assign rfl rfl rfl rfl) ?_
   refine Tops_nil (tZ [13, 14] [0, 1, 2, 3, 5] [] rfl rfl rfl rfl ?_)
   refine Tk_seq (Tk_seq (Tk_region (Tops_step rfl (OpT_move rfl rfl rfl rfl) ?_)))
   refine Tops_step rfl (OpT_bin rfl rfl rfl rfl rfl (bin_neq_i (a := read1.2) (b := (0 : Int)))) ?_
   refine Tops_nil (tZ [13, 37] [0, 1, 2, 3, 4] [] rfl rfl rfl rfl ?_)
   rcases Bool.eq_false_or_eq_true (read1.2 != (0 : Int)) with hg3 | hg3
   ·replace h := br_t hg3 h
    refine Tk_condT (congrArg (fun b => some (Value.bool b)) hg3) ?_
    refine Tk_seq (Tk_region (Tops_step rfl (OpT_assign rfl rfl rfl rfl) ?_))
    refine Tops_step rfl (OpT_assign rfl rfl rfl rfl) ?_
    refine Tops_nil (tZ [10, 11] [0, 1, 2, 3] [] rfl rfl rfl rfl ?_)
    refine Tk_nilrow u8S ?_
    obtain rfl := Option.some.inj h
    exact Tk_retV rfl rfl (resA (vs := [.slice none 0 0, vU8 (1 : UInt8)]) rfl ⟨rfl, rfl, trivial⟩) [0, 1, 2, 3, 4] [] rfl rfl rfl ⟨(.slice none 0 0), vsp01, vsp02, vsp03, rfl, rfl, rfl⟩
   ·replace h := br_f hg3 h
    refine Tk_condF (congrArg (fun b => some (Value.bool b)) hg3) ?_
    refine Tk_skip (Tk_seq (Tk_region (Tops_step rfl (OpT_move rfl rfl rfl rfl) ?_)))
    refine Tops_step rfl (OpT_assign rfl rfl rfl rfl) ?_
    refine Tops_step rfl (OpT_assign rfl rfl rfl rfl) ?_
    refine Tops_nil (tZ [10, 11] [0, 1, 2, 3, 4] [] rfl rfl rfl rfl ?_)
    obtain rfl := Option.some.inj h
    exact Tk_retV rfl rfl (resA (vs := [v1, vU8 (0 : UInt8)]) rfl ⟨rfl, rfl, trivial⟩) [0, 1, 2, 3, 4] [] rfl rfl rfl ⟨v1, vsp01, vsp02, vsp03, rfl, rfl, rfl⟩
 ·replace h := br_f hg1 h
  refine Tk_condF (congrArg (fun b => some (Value.bool b)) hg1) ?_
  refine Tk_seq (Tk_region (Tops_step rfl (OpT_bin rfl rfl rfl rfl rfl (bin_eql_u32 (a := rp3.Type_) (b := (1 : UInt32)))) ?_))
  refine Tops_step rfl (OpT_assign rfl rfl rfl rfl) ?_
  refine Tops_nil (tZ [0, 1, 2, 4, 8, 12, 19, 39] [0, 1, 2, 3, 4] [0, 1, 2] rfl rfl rfl rfl ?_)
  rcases Bool.eq_false_or_eq_true (rp3.Type_ == (1 : UInt32)) with hg4 | hg4
  ·replace h := br_t hg4 h
   refine Tk_condT (congrArg (fun b => some (Value.bool b)) hg4) ?_
   refine Tk_seq (Tk_seq (Tk_region (Tops_step rfl (OpT_move rfl rfl rfl rfl) ?_)))
   refine Tops_step rfl (OpT_move rfl rfl rfl rfl) ?_
   rcases Bool.eq_false_or_eq_true (has1) with hg5 | hg5
   ·replace h := br_t hg5 h
    refine Tops_no rfl rfl (congrArg (fun b => some (Value.bool b)) hg5) rfl rfl ?_
    refine Tops_no rfl rfl (congrArg (fun b => some (Value.bool b)) hg5) rfl rfl ?_
    refine Tops_no rfl rfl (congrArg (fun b => some (Value.bool b)) hg5) rfl rfl ?_
    refine Tops_no rfl rfl (congrArg (fun b => some (Value.bool b)) hg5) rfl rfl ?_
    refine Tops_no rfl rfl (congrArg (fun b => some (Value.bool b)) hg5) rfl rfl ?_
    refine Tops_no rfl rfl (congrArg (fun b => some (Value.bool b)) hg5) rfl rfl ?_
    refine Tops_step rfl (OpT_pickT rfl rfl rfl (congrArg (fun b => some (Value.bool b)) hg5) rfl) ?_
    refine Tops_nil (tZ [49] [0, 1, 2, 3] [] rfl rfl rfl rfl ?_)
    refine Tk_condT rfl ?_
    refine Tk_seq (Tk_region (Tops_step rfl (OpT_assign rfl rfl rfl rfl) ?_))
    refine Tops_step rfl (OpT_assign rfl rfl rfl rfl) ?_
    refine Tops_nil (tZ [10, 11] [0, 1, 2, 3] [] rfl rfl rfl rfl ?_)
    refine Tk_nilrow u8S ?_
    obtain rfl := Option.some.inj h
    exact Tk_retV rfl rfl (resA (vs := [.slice none 0 0, vU8 (1 : UInt8)]) rfl ⟨rfl, rfl, trivial⟩) [0, 1, 2, 3, 4] [] rfl rfl rfl ⟨(.slice none 0 0), vsp01, vsp02, vsp03, rfl, rfl, rfl⟩
   ·replace h := br_f hg5 h
    refine Tops_yes rfl rfl (congrArg (fun b => some (Value.bool b)) hg5) (OpT_move rfl rfl rfl rfl) ?_
    rintro _ rfl
    refine Tops_yes rfl rfl (congrArg (fun b => some (Value.bool b)) hg5) (OpT_fieldC rfl rfl rfl rfl fldF38x1) ?_
    rintro _ rfl
    refine Tops_yes rfl rfl (congrArg (fun b => some (Value.bool b)) hg5) (OpT_loadC rfl rfl rfl rfl tyF29 (i := 4) rfl rfl) ?_
    rintro _ rfl
    refine Tops_yes rfl rfl (congrArg (fun b => some (Value.bool b)) hg5) (OpT_move rfl rfl rfl rfl) ?_
    rintro _ rfl
    obtain ⟨write1, hx3, h⟩ := ob_e h
    refine Tops_yes rfl rfl (congrArg (fun b => some (Value.bool b)) hg5) (OpT_callP [5, 6, 7, 8, 4] (w_ref_Store_Write20 hx3) [0, 1, 2, 3] [2] rfl rfl rfl rfl rfl callee81 rfl rfl rfl rfl rfl) ?_
    rintro _ ⟨_, _, _, ⟨v2, v3, v4, rfl, rfl, rfl⟩, rfl⟩
    refine Tops_yes rfl rfl (congrArg (fun b => some (Value.bool b)) hg5) (OpT_bin rfl rfl rfl rfl rfl (bin_neq_i (a := write1.1) (b := (0 : Int)))) ?_
    rintro _ rfl
    refine Tops_step rfl (OpT_pickF rfl rfl rfl (congrArg (fun b => some (Value.bool b)) hg5) rfl) ?_
    refine Tops_nil (tZ [49] [0, 1, 2, 3] [] rfl rfl rfl rfl ?_)
    rcases Bool.eq_false_or_eq_true (write1.1 != (0 : Int)) with hg6 | hg6
    ·replace h := br_t hg6 h
     refine Tk_condT (congrArg (fun b => some (Value.bool b)) hg6) ?_
     refine Tk_seq (Tk_region (Tops_step rfl (OpT_assign rfl rfl rfl rfl) ?_))
     refine Tops_step rfl (OpT_assign rfl rfl rfl rfl) ?_
     refine Tops_nil (tZ [10, 11] [0, 1, 2, 3] [] rfl rfl rfl rfl ?_)
     refine Tk_nilrow u8S ?_
     obtain rfl := Option.some.inj h
     exact Tk_retV rfl rfl (resA (vs := [.slice none 0 0, vU8 (1 : UInt8)]) rfl ⟨rfl, rfl, trivial⟩) [0, 1, 2, 3, 4] [] rfl rfl rfl ⟨(.slice none 0 0), v2, v3, v4, rfl, rfl, rfl⟩
    ·replace h := br_f hg6 h
     refine Tk_condF (congrArg (fun b => some (Value.bool b)) hg6) ?_
     refine Tk_skip (Tk_seq (Tk_region (Tops_step rfl (OpT_assign rfl rfl rfl rfl) ?_)))
     refine Tops_step rfl (OpT_assign rfl rfl rfl rfl) ?_
     refine Tops_nil (tZ [10, 11] [0, 1, 2, 3] [] rfl rfl rfl rfl ?_)
     refine Tk_nilrow u8S ?_
     obtain rfl := Option.some.inj h
     exact Tk_retV rfl rfl (resA (vs := [.slice none 0 0, vU8 (0 : UInt8)]) rfl ⟨rfl, rfl, trivial⟩) [0, 1, 2, 3, 4] [] rfl rfl rfl ⟨(.slice none 0 0), v2, v3, v4, rfl, rfl, rfl⟩
  ·replace h := br_f hg4 h
   refine Tk_condF (congrArg (fun b => some (Value.bool b)) hg4) ?_
   refine Tk_seq (Tk_region (Tops_step rfl (OpT_bin rfl rfl rfl rfl rfl (bin_eql_u32 (a := rp3.Type_) (b := (4 : UInt32)))) ?_))
   refine Tops_step rfl (OpT_assign rfl rfl rfl rfl) ?_
   refine Tops_nil (tZ [0, 1, 2, 4, 8, 12, 19, 50] [0, 1, 2, 3, 4] [0, 1, 2] rfl rfl rfl rfl ?_)
   rcases Bool.eq_false_or_eq_true (rp3.Type_ == (4 : UInt32)) with hg7 | hg7
   ·replace h := br_t hg7 h
    refine Tk_condT (congrArg (fun b => some (Value.bool b)) hg7) ?_
    refine Tk_seq (Tk_seq (Tk_region (Tops_step rfl (OpT_move rfl rfl rfl rfl) ?_)))
    obtain ⟨has2, hx4, h⟩ := ob_e h
    refine Tops_exP rfl (OpT_call (w_ref_Has06 hx4) [] [] rfl rfl rfl rfl rfl callee79 rfl rfl rfl rfl) ?_
    rintro _ ⟨_, _, _, ⟨rfl, rfl, rfl⟩, rfl⟩
    refine Tops_step rfl (OpT_not rfl rfl rfl rfl) ?_
    refine Tops_nil (tZ [0, 54] [0, 1, 2, 3] [] rfl rfl rfl rfl ?_)
    rcases Bool.eq_false_or_eq_true ((!has2)) with hg8 | hg8
    ·replace h := br_t hg8 h
     refine Tk_condT (congrArg (fun b => some (Value.bool b)) hg8) ?_
     refine Tk_seq (Tk_region (Tops_step rfl (OpT_assign rfl rfl rfl rfl) ?_))
     refine Tops_step rfl (OpT_assign rfl rfl rfl rfl) ?_
     refine Tops_nil (tZ [10, 11] [0, 1, 2, 3] [] rfl rfl rfl rfl ?_)
     refine Tk_nilrow u8S ?_
     obtain rfl := Option.some.inj h
     exact Tk_retV rfl rfl (resA (vs := [.slice none 0 0, vU8 (2 : UInt8)]) rfl ⟨rfl, rfl, trivial⟩) [0, 1, 2, 3, 4] [] rfl rfl rfl ⟨(.slice none 0 0), vsp01, vsp02, vsp03, rfl, rfl, rfl⟩
    ·replace h := br_f hg8 h
     refine Tk_condF (congrArg (fun b => some (Value.bool b)) hg8) ?_
     refine Tk_skip (Tk_seq (Tk_region (Tops_step rfl (OpT_move rfl rfl rfl rfl) ?_)))
     obtain ⟨flush1, hx5, h⟩ := ob_e h
     refine Tops_exP rfl (OpT_callP [4, 5, 6, 7] (w_ref_Store_Flush20 hx5) [0, 1, 2, 3] [] rfl rfl rfl rfl rfl callee82 rfl rfl rfl rfl rfl) ?_
     rintro _ ⟨_, _, _, ⟨v5, v6, v7, rfl, rfl, rfl⟩, rfl⟩
     refine Tops_nil (tZ [] [0, 1, 2, 3] [] rfl rfl rfl rfl ?_)
     refine Tk_seq (Tk_region (Tops_step rfl (OpT_assign rfl rfl rfl rfl) ?_))
     refine Tops_step rfl (OpT_assign rfl rfl rfl rfl) ?_
     refine Tops_nil (Tk_nilrow u8S ?_)
     obtain rfl := Option.some.inj h
     exact Tk_retV rfl rfl (resA (vs := [.slice none 0 0, vU8 (0 : UInt8)]) rfl ⟨rfl, rfl, trivial⟩) [0, 1, 2, 3, 4] [] rfl rfl rfl ⟨(.slice none 0 0), v5, v6, v7, rfl, rfl, rfl⟩
   ·replace h := br_f hg7 h
    refine Tk_condF (congrArg (fun b => some (Value.bool b)) hg7) ?_
    refine Tk_seq (Tk_region (Tops_step rfl (OpT_bin rfl rfl rfl rfl rfl (bin_eql_u32 (a := rp3.Type_) (b := (8 : UInt32)))) ?_))
    refine Tops_step rfl (OpT_assign rfl rfl rfl rfl) ?_
    refine Tops_nil (tZ [0, 1, 2, 4, 8, 12, 19, 57] [0, 1, 2, 3, 4] [0, 1, 2] rfl rfl rfl rfl ?_)
    rcases Bool.eq_false_or_eq_true (rp3.Type_ == (8 : UInt32)) with hg9 | hg9
    ·replace h := br_t hg9 h
     refine Tk_condT (congrArg (fun b => some (Value.bool b)) hg9) ?_
     refine Tk_seq (Tk_seq (Tk_region (Tops_step rfl (OpT_fieldC rfl rfl rfl rfl fldF38x3) ?_)))
     refine Tops_step rfl (OpT_loadC rfl rfl rfl rfl tyF3 (i := 4) rfl rfl) ?_
     refine Tops_step rfl (OpT_bin rfl rfl rfl rfl rfl (bin_lss_i (a := rp3.Room) (b := (20 : Int)))) ?_
     refine Tops_nil (tZ [2, 61] [0, 1, 2, 3] [] rfl rfl rfl rfl ?_)
     rcases Bool.eq_false_or_eq_true (decide (rp3.Room < (20 : Int))) with hg10 | hg10
     ·replace h := br_t hg10 h
      refine Tk_condT (congrArg (fun b => some (Value.bool b)) hg10) ?_
      refine Tk_seq (Tk_region (Tops_step rfl (OpT_assign rfl rfl rfl rfl) ?_))
      refine Tops_step rfl (OpT_assign rfl rfl rfl rfl) ?_
      refine Tops_nil (tZ [10, 11] [0, 1, 2, 3] [] rfl rfl rfl rfl ?_)
      refine Tk_nilrow u8S ?_
      obtain rfl := Option.some.inj h
      exact Tk_retV rfl rfl (resA (vs := [.slice none 0 0, vU8 (1 : UInt8)]) rfl ⟨rfl, rfl, trivial⟩) [0, 1, 2, 3, 4] [] rfl rfl rfl ⟨(.slice none 0 0), vsp01, vsp02, vsp03, rfl, rfl, rfl⟩
     ·replace h := br_f hg10 h
      refine Tk_condF (congrArg (fun b => some (Value.bool b)) hg10) ?_
      refine Tk_skip (Tk_seq (Tk_region ?_))
      obtain ⟨hc1, h⟩ := chk_e h
      refine Tops_ex rfl (OpT_makeD u8S rfl (u := (0 : UInt8)) rfl rfl rfl rfl rfl slF35 rfl hc1) fun v8 => ?_
      refine Tops_step rfl (OpT_assign rfl rfl rfl rfl) ?_
      refine Tops_nil (tZ [2, 15] [0, 1, 2, 3, 4] [] rfl rfl rfl rfl ?_)
      refine Tk_seq (Tk_region (Tops_step rfl (OpT_move rfl rfl rfl rfl) ?_))
      refine Tops_step rfl (OpT_move rfl rfl rfl rfl) ?_
      refine Tops_step rfl (OpT_copyStr rfl rfl rfl rfl rfl slF35 (i := 4) rfl) ?_
      refine Tops_nil (tZ [15] [0, 1, 2, 3, 4] [] rfl rfl rfl rfl ?_)
      refine Tk_seq (Tk_region (Tops_step rfl (OpT_move rfl rfl rfl rfl) ?_))
      refine Tops_step rfl (OpT_assign rfl rfl rfl rfl) ?_
      refine Tops_step rfl (OpT_assign rfl rfl rfl rfl) ?_
      refine Tops_nil (tZ [10, 11] [0, 1, 2, 3, 4] [] rfl rfl rfl rfl ?_)
      obtain rfl := Option.some.inj h
      exact Tk_retV rfl rfl (resA (vs := [v8, vU8 (0 : UInt8)]) rfl ⟨rfl, rfl, trivial⟩) [0, 1, 2, 3, 4] [] rfl rfl rfl ⟨v8, vsp01, vsp02, vsp03, rfl, rfl, rfl⟩
    ·replace h := br_f hg9 h
     refine Tk_condF (congrArg (fun b => some (Value.bool b)) hg9) ?_
     refine Tk_seq (Tk_seq (Tk_region (Tops_step rfl (OpT_bin rfl rfl rfl rfl rfl (bin_eql_u32 (a := rp3.Type_) (b := (11 : UInt32)))) ?_)))
     refine Tops_step rfl (OpT_assign rfl rfl rfl rfl) ?_
     refine Tops_nil (tZ [0, 1, 4, 8, 12, 19, 67] [0, 1, 2, 3, 4] [0, 1, 2] rfl rfl rfl rfl ?_)
     refine Tk_join (α := Bool) (fun s => ⟨[(0, some (.pointer (some ⟨b_sp0, 0, none⟩))), (1, some (vU64 feats)), (4, some (vb1)), (8, some (.pointer (some ⟨b1, 0, none⟩))), (12, some (vB has1)), (67, some (vB s))], [some (cellsR b_sp0 105 [vsp01, vsp02, vsp03]), some (rowS u8S vsp01 sp0.old), some (rowS u8S vsp02 sp0.now), some (rowS bS vsp03 sp0.fresh), some (cellsR b1 38 [vU32 rp3.Type_, vU64 rp3.Sector, vrp31, vI rp3.Room, vrp32])], [Fact.sl u8S vb1 b, Fact.sl u8S vrp31 rp3.Data, Fact.sl RangeS vrp32 rp3.Ranges]⟩) (fun s => ref_apply21J1 sp0 feats rp3 b has1 s = some r) ?_ ?_
     ·rintro x1 h
      replace h : ref_apply21J1 sp0 feats rp3 b has1 x1 = some r := h
      unfold ref_apply21J1 at h
      rcases Bool.eq_false_or_eq_true (x1) with hg11 | hg11
      ·replace h := br_t hg11 h
       refine Tk_condT (congrArg (fun b => some (Value.bool b)) hg11) ?_
       refine Tk_seq (Tk_region (Tops_step rfl (OpT_move rfl rfl rfl rfl) ?_))
       refine Tops_step rfl (OpT_move rfl rfl rfl rfl) ?_
       refine Tops_step rfl (OpT_fieldC rfl rfl rfl rfl fldF38x0) ?_
       refine Tops_step rfl (OpT_loadC rfl rfl rfl rfl tyF30 (i := 4) rfl rfl) ?_
       refine Tops_step rfl (OpT_move rfl rfl rfl rfl) ?_
       refine Tops_step rfl (OpT_move rfl rfl rfl rfl) ?_
       obtain ⟨ranges1, hx6, h⟩ := ob_e h
       refine Tops_exP rfl (OpT_callP [5, 6, 7, 8, 4] (w_ref_ranges21 hx6) [0, 1, 2, 3] [0] rfl rfl rfl rfl rfl callee83 rfl rfl rfl rfl rfl) ?_
       rintro _ ⟨_, _, _, ⟨v9, v10, v11, rfl, rfl, rfl⟩, rfl⟩
       refine Tops_step rfl (OpT_assign rfl rfl rfl rfl) ?_
       refine Tops_step rfl (OpT_assign rfl rfl rfl rfl) ?_
       refine Tops_nil (tZ [10, 11] [0, 1, 2, 3] [] rfl rfl rfl rfl ?_)
       refine Tk_nilrow u8S ?_
       obtain rfl := Option.some.inj h
       exact Tk_retV rfl rfl (resA (vs := [.slice none 0 0, vU8 ranges1.1]) rfl ⟨rfl, rfl, trivial⟩) [0, 1, 2, 3, 4] [] rfl rfl rfl ⟨(.slice none 0 0), v9, v10, v11, rfl, rfl, rfl⟩
      ·replace h := br_f hg11 h
       refine Tk_condF (congrArg (fun b => some (Value.bool b)) hg11) ?_
       refine Tk_skip (Tk_blk (Tk_seq (Tk_region (Tops_step rfl (OpT_assign rfl rfl rfl rfl) ?_))))
       refine Tops_step rfl (OpT_assign rfl rfl rfl rfl) ?_
       refine Tops_nil (tZ [10, 11] [0, 1, 2, 3] [] rfl rfl rfl rfl ?_)
       refine Tk_nilrow u8S ?_
       obtain rfl := Option.some.inj h
       exact Tk_retV rfl rfl (resA (vs := [.slice none 0 0, vU8 (2 : UInt8)]) rfl ⟨rfl, rfl, trivial⟩) [0, 1, 2, 3, 4] [] rfl rfl rfl ⟨(.slice none 0 0), vsp01, vsp02, vsp03, rfl, rfl, rfl⟩
     ·intro HJ1
      rcases Bool.eq_false_or_eq_true (rp3.Type_ == (11 : UInt32)) with hg12 | hg12
      ·replace h := br_t hg12 h
       refine Tk_condT (congrArg (fun b => some (Value.bool b)) hg12) ?_
       refine Tk_skip ?_
       exact Tk_jmpS (HJ1 (rp3.Type_ == (11 : UInt32)) h) [0, 1, 4, 8, 12, 67] [0, 1, 2, 3, 4] [2, 0, 1] rfl rfl rfl rfl
      ·replace h := br_f hg12 h
       refine Tk_condF (congrArg (fun b => some (Value.bool b)) hg12) ?_
       refine Tk_region (Tops_step rfl (OpT_bin rfl rfl rfl rfl rfl (bin_eql_u32 (a := rp3.Type_) (b := (13 : UInt32)))) ?_)
       refine Tops_step rfl (OpT_assign rfl rfl rfl rfl) ?_
       refine Tops_nil (tZ [0, 1, 4, 8, 12, 67] [0, 1, 2, 3, 4] [0, 1, 2] rfl rfl rfl rfl ?_)
       exact Tk_jmpS (HJ1 (rp3.Type_ == (13 : UInt32)) h) [0, 1, 4, 8, 12, 67] [0, 1, 2, 3, 4] [2, 0, 1] rfl rfl rfl rfl

set_option maxRecDepth 100000 in
set_option maxHeartbeats 4000000 in
theorem w_ref_Part05 {l : List Seg} {write : Bool} {vl1 : Value} {r : (List Seg)} (h : ref_Part05 l write = some r) :
  Ctr Try.prog 58 #[vl1, vB write] [] [Fact.sl SegS vl1 l]
   (fun rv own shr => ∃ (w1 : Value), rv = w1 ∧ own = [(rowS SegS w1 r)] ∧ shr = []) := by
 unfold ref_Part05 at h
 refine Ctr.mk (args := [vl1, vB write]) Try.func58 rfl rfl (fun R0 w0 B => ?_)
 refine Tk_seq (Tk_region (Tops_step rfl (OpT_assign rfl rfl rfl rfl) ?_))
 refine Tops_nil (tZ [0, 1] [] [0] rfl rfl rfl rfl ?_)
 refine Tk_seq (Tk_region (Tops_step rfl (OpT_assign rfl rfl rfl rfl) ?_))
 refine Tops_nil (Tk_seq (Tk_seq (Tk_region (Tops_step rfl (OpT_assign rfl rfl rfl rfl) ?_))))
 refine Tops_nil (Tk_block (Tk_nilrow SegS ?_))
 refine Tk_loopS (σ := (List Seg) × Int × Value) [0, 1, 5, 6] [0] [0] (fun s => ⟨[(0, some (vl1)), (1, some (vB write)), (5, some (s.2.2)), (6, some (vI s.2.1))], [some (rowS SegS s.2.2 s.1)], [Fact.sl SegS vl1 l]⟩) (fun nf1 s => ref_Part05L1 l write nf1 s.1 s.2.1 = some r) fuel ([], (0 : Int), (.slice none 0 0)) h rfl rfl rfl rfl rfl (fun s h => by cases h) ?_
 rintro nf1 ⟨out1, i1, v1⟩ h
 replace h : ref_Part05L1B l write (ref_Part05L1 l write nf1) out1 i1 = some r := h
 unfold ref_Part05L1B at h
 refine Tk_seq (Tk_seq (Tk_region (Tops_step rfl (OpT_move rfl rfl rfl rfl) ?_)))
 refine Tops_step rfl (OpT_move rfl rfl rfl rfl) ?_
 refine Tops_step rfl (OpT_lenS rfl rfl rfl rfl Try.underlying22 (i := 0) rfl) ?_
 refine Tops_step rfl (OpT_bin rfl rfl rfl rfl rfl (bin_lss_i (a := i1) (b := len l))) ?_
 refine Tops_step rfl (OpT_move rfl rfl rfl rfl) ?_
 rcases Bool.eq_false_or_eq_true (decide (i1 < (len l))) with hg1 | hg1
 ·replace h := br_t hg1 h
  refine Tops_yes rfl rfl (congrArg (fun b => some (Value.bool b)) hg1) (OpT_move rfl rfl rfl rfl) ?_
  rintro _ rfl
  obtain ⟨check1, hx1, h⟩ := ob_e h
  refine Tops_yes rfl rfl (congrArg (fun b => some (Value.bool b)) hg1) (OpT_call (w_ref_Check05 hx1) [] [0] rfl rfl rfl rfl rfl callee11 rfl rfl rfl rfl) ?_
  rintro _ ⟨_, _, _, ⟨rfl, rfl, rfl⟩, rfl⟩
  refine Tops_yes rfl rfl (congrArg (fun b => some (Value.bool b)) hg1) (OpT_bin rfl rfl rfl rfl rfl (bin_eql_i (a := check1) (b := (0 : Int)))) ?_
  rintro _ rfl
  refine Tops_step rfl (OpT_pickT rfl rfl rfl (congrArg (fun b => some (Value.bool b)) hg1) rfl) ?_
  refine Tops_nil (tZ [0, 1, 5, 6, 15] [0] [0] rfl rfl rfl rfl ?_)
  rcases Bool.eq_false_or_eq_true (check1 == (0 : Int)) with hg2 | hg2
  ·replace h := br_t hg2 h
   refine Tk_condT (congrArg (fun b => some (Value.bool b)) hg2) ?_
   refine Tk_skip (Tk_seq (Tk_block (Tk_seq (Tk_region (Tops_step rfl (OpT_move rfl rfl rfl rfl) ?_)))))
   refine Tops_step rfl (OpT_move rfl rfl rfl rfl) ?_
   obtain ⟨s1, hx2, h⟩ := ob_e h
   refine Tops_ex rfl (OpT_idxS rfl rfl rfl rfl rfl slF22 (i := 0) rfl hx2) fun p1 => ?_
   refine Tops_ex rfl (OpT_fieldP (S' := bS) (y := s1.Write) rfl rfl rfl rfl fldF32x2 (i := 1) rfl (by intro h cs hr; subst hr; rfl)) fun p2 => ?_
   refine Tops_step rfl (OpT_loadP rfl rfl rfl rfl tyF4 (i := 2) rfl rfl) ?_
   refine Tops_step rfl (OpT_move rfl rfl rfl rfl) ?_
   refine Tops_step rfl (OpT_bin rfl rfl rfl rfl rfl (bin_eql_b (a := s1.Write) (b := write) Try.underlying4)) ?_
   refine Tops_nil (tZ [0, 1, 5, 6, 24] [0] [0] rfl rfl rfl rfl ?_)
   rcases Bool.eq_false_or_eq_true (s1.Write == write) with hg3 | hg3
   ·replace h := br_t hg3 h
    refine Tk_condT (congrArg (fun b => some (Value.bool b)) hg3) ?_
    refine Tk_region (Tops_step rfl (OpT_move rfl rfl rfl rfl) ?_)
    refine Tops_step rfl (OpT_move rfl rfl rfl rfl) ?_
    refine Tops_step rfl (OpT_move rfl rfl rfl rfl) ?_
    obtain ⟨s2, hx3, h⟩ := ob_e h
    refine Tops_ex rfl (OpT_idxS rfl rfl rfl rfl rfl slF22 (i := 0) rfl hx3) fun p3 => ?_
    refine Tops_step rfl (OpT_loadPA (vs := [vU64 s2.At, vU32 s2.Len, vB s2.Write]) rfl rfl rfl rfl tyF32 (i := 1) rfl rfl) ?_
    refine Tops_ex rfl (OpT_buildSlice (S := SegS) (xs := [s2]) (css := [[vU64 s2.At, vU32 s2.Len, vB s2.Write]]) (cs := [vU64 s2.At, vU32 s2.Len, vB s2.Write]) (e := 32) rfl rfl rfl rfl (bldF slF22 (by decide) (by kernel_rfl)) rfl rfl rfl rfl (rel_plainD (S := SegS) (xs := [s2]) (css := [[vU64 s2.At, vU32 s2.Len, vB s2.Write]]) rfl rfl)) fun v2 => ?_
    obtain ⟨hc1, h⟩ := chk_e h
    refine Tops_ex rfl (OpT_appendB (S := SegS) rfl rfl rfl rfl rfl rfl slF22 (i := 0) (j := 1) rfl rfl hc1) fun v3 => ?_
    refine Tops_step rfl (OpT_assign rfl rfl rfl rfl) ?_
    refine Tops_nil (tZ [0, 1, 5, 6] [0] [0] rfl rfl rfl rfl ?_)
    refine Tk_blk (Tk_region (Tops_step rfl (OpT_move rfl rfl rfl rfl) ?_))
    refine Tops_step rfl (OpT_bin rfl rfl rfl rfl rfl (bin_add_i (a := i1) (b := (1 : Int)))) ?_
    refine Tops_step rfl (OpT_assign rfl rfl rfl rfl) ?_
    refine Tops_nil (tZ [0, 1, 5, 6] [0] [0] rfl rfl rfl rfl ?_)
    exact Tk_backS (out1 ++ [s2], wi (i1 + (1 : Int)), v3) h [0, 1, 5, 6] [0] [0] rfl rfl rfl rfl rfl
   ·replace h := br_f hg3 h
    refine Tk_condF (congrArg (fun b => some (Value.bool b)) hg3) ?_
    refine Tk_skip (Tk_blk (Tk_region (Tops_step rfl (OpT_move rfl rfl rfl rfl) ?_)))
    refine Tops_step rfl (OpT_bin rfl rfl rfl rfl rfl (bin_add_i (a := i1) (b := (1 : Int)))) ?_
    refine Tops_step rfl (OpT_assign rfl rfl rfl rfl) ?_
    refine Tops_nil (tZ [0, 1, 5, 6] [0] [0] rfl rfl rfl rfl ?_)
    exact Tk_backS (out1, wi (i1 + (1 : Int)), v1) h [0, 1, 5, 6] [0] [0] rfl rfl rfl rfl rfl
  ·replace h := br_f hg2 h
   refine Tk_condF (congrArg (fun b => some (Value.bool b)) hg2) ?_
   refine Tk_exit _ rfl ?_
   refine Tk_seq (Tk_region (Tops_step rfl (OpT_move rfl rfl rfl rfl) ?_))
   refine Tops_step rfl (OpT_assign rfl rfl rfl rfl) ?_
   refine Tops_nil (tZ [4] [0] [] rfl rfl rfl rfl ?_)
   obtain rfl := Option.some.inj h
   exact Tk_retV rfl rfl (resA (vs := [v1]) rfl ⟨rfl, trivial⟩) [0] [] rfl rfl rfl ⟨v1, rfl, rfl, rfl⟩
 ·replace h := br_f hg1 h
  refine Tops_no rfl rfl (congrArg (fun b => some (Value.bool b)) hg1) rfl rfl ?_
  refine Tops_no rfl rfl (congrArg (fun b => some (Value.bool b)) hg1) rfl rfl ?_
  refine Tops_no rfl rfl (congrArg (fun b => some (Value.bool b)) hg1) rfl rfl ?_
  refine Tops_step rfl (OpT_pickF rfl rfl rfl (congrArg (fun b => some (Value.bool b)) hg1) rfl) ?_
  refine Tops_nil (tZ [0, 1, 5, 6, 15] [0] [0] rfl rfl rfl rfl ?_)
  refine Tk_condF rfl ?_
  refine Tk_exit _ rfl ?_
  refine Tk_seq (Tk_region (Tops_step rfl (OpT_move rfl rfl rfl rfl) ?_))
  refine Tops_step rfl (OpT_assign rfl rfl rfl rfl) ?_
  refine Tops_nil (tZ [4] [0] [] rfl rfl rfl rfl ?_)
  obtain rfl := Option.some.inj h
  exact Tk_retV rfl rfl (resA (vs := [v1]) rfl ⟨rfl, trivial⟩) [0] [] rfl rfl rfl ⟨v1, rfl, rfl, rfl⟩

set_option maxRecDepth 100000 in
set_option maxHeartbeats 4000000 in
theorem w_ref_Scatter05 {m : dumbwaiterref02_Mem} {l : List Seg} {b : List UInt8} {b_m : Nat} {vm1 : Value} {vm2 : Value} {vsm1 : List Value} {vl1 : Value} {vb1 : Value} {r : (Int × Int × (List (List UInt8)))} (h : ref_Scatter05 m l b = some r) :
  Ctr Try.prog 67 #[.pointer (some ⟨b_m, 0, none⟩), vl1, vb1] [(cellsR b_m 97 [vm1, vm2]), (rowsX u8S false vm2 vsm1 m.B none)] [Fact.sl RegionS vm1 m.L, Fact.sl SegS vl1 l, Fact.sl u8S vb1 b]
   (fun rv own shr => rv = .tuple #[vI r.1, vI r.2.1] ∧ own = [(cellsR b_m 97 [vm1, vm2]), (rowsX u8S false vm2 vsm1 r.2.2 none)] ∧ shr = []) := by
 unfold ref_Scatter05 at h
 refine Ctr.mk (args := [.pointer (some ⟨b_m, 0, none⟩), vl1, vb1]) Try.func67 rfl rfl (fun R0 w0 B => ?_)
 refine Tk_seq (Tk_region (Tops_step rfl (OpT_assign rfl rfl rfl rfl) ?_))
 refine Tops_step rfl (OpT_assign rfl rfl rfl rfl) ?_
 refine Tops_nil (tZ [0, 1, 2] [0, 1] [0, 1, 2] rfl rfl rfl rfl ?_)
 refine Tk_seq (Tk_region (Tops_step rfl (OpT_move rfl rfl rfl rfl) ?_))
 refine Tops_step rfl (OpT_move rfl rfl rfl rfl) ?_
 obtain ⟨in1, hx1, h⟩ := ob_e h
 refine Tops_exP rfl (OpT_callP [2, 3] (w_ref_In05 hx1) [0, 1] [0, 1] rfl rfl rfl rfl rfl callee60 rfl rfl rfl rfl rfl) ?_
 rintro _ ⟨_, _, _, ⟨rfl, rfl, rfl⟩, rfl⟩
 refine Tops_step rfl (OpT_assign rfl rfl rfl rfl) ?_
 refine Tops_nil (tZ [0, 1, 2, 8] [0, 1] [0, 1, 2] rfl rfl rfl rfl ?_)
 refine Tk_seq (Tk_seq (Tk_region (Tops_step rfl (OpT_move rfl rfl rfl rfl) ?_)))
 refine Tops_step rfl (OpT_bin rfl rfl rfl rfl rfl (bin_neq_i (a := in1) (b := (0 : Int)))) ?_
 refine Tops_nil (tZ [0, 1, 2, 8, 16] [0, 1] [0, 1, 2] rfl rfl rfl rfl ?_)
 rcases Bool.eq_false_or_eq_true (in1 != (0 : Int)) with hg1 | hg1
 ·replace h := br_t hg1 h
  refine Tk_condT (congrArg (fun b => some (Value.bool b)) hg1) ?_
  refine Tk_seq (Tk_region (Tops_step rfl (OpT_move rfl rfl rfl rfl) ?_))
  refine Tops_step rfl (OpT_assign rfl rfl rfl rfl) ?_
  refine Tops_step rfl (OpT_assign rfl rfl rfl rfl) ?_
  refine Tops_nil (tZ [6, 7] [0, 1] [0] rfl rfl rfl rfl ?_)
  obtain rfl := Option.some.inj h
  exact Tk_retV rfl rfl (resA (vs := [vI (0 : Int), vI in1]) rfl ⟨rfl, rfl, trivial⟩) [0, 1] [] rfl rfl rfl ⟨rfl, rfl, rfl⟩
 ·replace h := br_f hg1 h
  refine Tk_condF (congrArg (fun b => some (Value.bool b)) hg1) ?_
  refine Tk_skip (Tk_seq (Tk_region (Tops_step rfl (OpT_assign rfl rfl rfl rfl) ?_)))
  refine Tops_nil (tZ [0, 1, 2, 9] [0, 1] [0, 1, 2] rfl rfl rfl rfl ?_)
  refine Tk_seq (Tk_seq (Tk_region (Tops_step rfl (OpT_assign rfl rfl rfl rfl) ?_)))
  refine Tops_nil (Tk_block (Tk_loopS (σ := (List (List UInt8)) × Int × Int) [0, 1, 2, 9, 10] [0, 1] [0, 1, 2] (fun s => ⟨[(0, some (.pointer (some ⟨b_m, 0, none⟩))), (1, some (vl1)), (2, some (vb1)), (9, some (vI s.2.1)), (10, some (vI s.2.2))], [some (cellsR b_m 97 [vm1, vm2]), some (rowsX u8S false vm2 vsm1 s.1 none)], [Fact.sl RegionS vm1 m.L, Fact.sl SegS vl1 l, Fact.sl u8S vb1 b]⟩) (fun nf1 s => ref_Scatter05L1 m l b nf1 s.1 s.2.1 s.2.2 = some r) fuel (m.B, (0 : Int), (0 : Int)) h rfl rfl rfl rfl rfl (fun s h => by cases h) ?_))
  rintro nf1 ⟨rows1, n1, i1⟩ h
  replace h : ref_Scatter05L1B m l b (ref_Scatter05L1 m l b nf1) rows1 n1 i1 = some r := h
  unfold ref_Scatter05L1B at h
  refine Tk_seq (Tk_seq (Tk_region (Tops_step rfl (OpT_move rfl rfl rfl rfl) ?_)))
  refine Tops_step rfl (OpT_move rfl rfl rfl rfl) ?_
  refine Tops_step rfl (OpT_lenS rfl rfl rfl rfl Try.underlying22 (i := 1) rfl) ?_
  refine Tops_step rfl (OpT_bin rfl rfl rfl rfl rfl (bin_lss_i (a := i1) (b := len l))) ?_
  refine Tops_nil (tZ [0, 1, 2, 9, 10, 21] [0, 1] [0, 1, 2] rfl rfl rfl rfl ?_)
  rcases Bool.eq_false_or_eq_true (decide (i1 < (len l))) with hg2 | hg2
  ·replace h := br_t hg2 h
   refine Tk_condT (congrArg (fun b => some (Value.bool b)) hg2) ?_
   refine Tk_skip (Tk_seq (Tk_join (α := (List (List UInt8)) × Int) (fun s => ⟨[(0, some (.pointer (some ⟨b_m, 0, none⟩))), (1, some (vl1)), (2, some (vb1)), (9, some (vI s.2)), (10, some (vI i1))], [some (cellsR b_m 97 [vm1, vm2]), some (rowsX u8S false vm2 vsm1 s.1 none)], [Fact.sl RegionS vm1 m.L, Fact.sl SegS vl1 l, Fact.sl u8S vb1 b]⟩) (fun s => ref_Scatter05J2 i1 (ref_Scatter05L1 m l b nf1) s.1 s.2 = some r) ?_ ?_))
   ·rintro ⟨rows2, n2⟩ h
    replace h : ref_Scatter05J2 i1 (ref_Scatter05L1 m l b nf1) rows2 n2 = some r := h
    unfold ref_Scatter05J2 at h
    refine Tk_region (Tops_step rfl (OpT_move rfl rfl rfl rfl) ?_)
    refine Tops_step rfl (OpT_bin rfl rfl rfl rfl rfl (bin_add_i (a := i1) (b := (1 : Int)))) ?_
    refine Tops_step rfl (OpT_assign rfl rfl rfl rfl) ?_
    refine Tops_nil (tZ [0, 1, 2, 9, 10] [0, 1] [0, 1, 2] rfl rfl rfl rfl ?_)
    exact Tk_backS (rows2, n2, wi (i1 + (1 : Int))) h [0, 1, 2, 9, 10] [0, 1] [0, 1, 2] rfl rfl rfl rfl rfl
   ·intro HJ1
    refine Tk_block (Tk_seq (Tk_region (Tops_step rfl (OpT_move rfl rfl rfl rfl) ?_)))
    refine Tops_step rfl (OpT_move rfl rfl rfl rfl) ?_
    obtain ⟨s1, hx2, h⟩ := ob_e h
    refine Tops_ex rfl (OpT_idxS rfl rfl rfl rfl rfl slF22 (i := 1) rfl hx2) fun p1 => ?_
    refine Tops_ex rfl (OpT_fieldP (S' := bS) (y := s1.Write) rfl rfl rfl rfl fldF32x2 (i := 3) rfl (by intro h cs hr; subst hr; rfl)) fun p2 => ?_
    refine Tops_step rfl (OpT_loadP rfl rfl rfl rfl tyF4 (i := 4) rfl rfl) ?_
    refine Tops_nil (tZ [0, 1, 2, 9, 10, 28] [0, 1] [0, 1, 2] rfl rfl rfl rfl ?_)
    refine Tk_join (α := (List (List UInt8)) × Int) (fun s => ⟨[(0, some (.pointer (some ⟨b_m, 0, none⟩))), (1, some (vl1)), (2, some (vb1)), (9, some (vI s.2)), (10, some (vI i1))], [some (cellsR b_m 97 [vm1, vm2]), some (rowsX u8S false vm2 vsm1 s.1 none)], [Fact.sl RegionS vm1 m.L, Fact.sl SegS vl1 l, Fact.sl u8S vb1 b]⟩) (fun s => ref_Scatter05J3 i1 (ref_Scatter05L1 m l b nf1) s.1 s.2 = some r) ?_ ?_
    ·rintro ⟨rows3, n3⟩ h
     replace h : ref_Scatter05J3 i1 (ref_Scatter05L1 m l b nf1) rows3 n3 = some r := h
     unfold ref_Scatter05J3 at h
     refine Tk_blk ?_
     exact Tk_jmpS (HJ1 (rows3, n3) h) [0, 1, 2, 9, 10] [0, 1] [0, 1, 2] rfl rfl rfl rfl
    ·intro HJ2
     rcases Bool.eq_false_or_eq_true (s1.Write) with hg3 | hg3
     ·replace h := br_t hg3 h
      refine Tk_condT (congrArg (fun b => some (Value.bool b)) hg3) ?_
      refine Tk_seq (Tk_region (Tops_step rfl (OpT_move rfl rfl rfl rfl) ?_))
      refine Tops_step rfl (OpT_lenS rfl rfl rfl rfl Try.underlying35 (i := 2) rfl) ?_
      refine Tops_step rfl (OpT_move rfl rfl rfl rfl) ?_
      refine Tops_step rfl (OpT_bin rfl rfl rfl rfl rfl (bin_sub_i (a := len b) (b := n1))) ?_
      refine Tops_step rfl (OpT_move rfl rfl rfl rfl) ?_
      refine Tops_step rfl (OpT_move rfl rfl rfl rfl) ?_
      obtain ⟨s2, hx3, h⟩ := ob_e h
      refine Tops_ex rfl (OpT_idxS rfl rfl rfl rfl rfl slF22 (i := 1) rfl hx3) fun p3 => ?_
      refine Tops_ex rfl (OpT_fieldP (S' := u32S) (y := s2.Len) rfl rfl rfl rfl fldF32x1 (i := 3) rfl (by intro h cs hr; subst hr; rfl)) fun p4 => ?_
      refine Tops_step rfl (OpT_loadP rfl rfl rfl rfl tyF30 (i := 4) rfl rfl) ?_
      refine Tops_step rfl (OpT_cnv rfl rfl rfl rfl (cnv_u32_i (n := s2.Len) Try.underlying30 Try.underlying3)) ?_
      refine Tops_step rfl (OpT_min_i (u := wi ((len b) - n1)) (v := i32 s2.Len) rfl rfl rfl rfl rfl) ?_
      refine Tops_step rfl (OpT_assign rfl rfl rfl rfl) ?_
      refine Tops_nil (tZ [0, 1, 2, 9, 10, 11] [0, 1] [0, 1, 2] rfl rfl rfl rfl ?_)
      refine Tk_seq (Tk_drawT (by kernel_rfl) ?_)
      refine TA_tb [0, 0, 0, 6, 14, 30, 0, 0, 0, 0, 768, 1984, 4095] (by kernel_rfl) fun htb => ?_
      obtain ⟨s3, hx4, h⟩ := ob_e h
      obtain ⟨hc1, h⟩ := chk_e h
      refine TA_seg (lo := 0) (hi := 12) htb rfl rfl (by kernel_rfl) (fun c L a w => ∃ (p5 : Value), ∃ (p6 : Value), ∃ (v1 : Value), Sat c ⟨[(0, some (.pointer (some ⟨b_m, 0, none⟩))), (1, some (vl1)), (2, some (vb1)), (9, some (vI n1)), (10, some (vI i1)), (11, some (vI (mini (wi ((len b) - n1)) (i32 s2.Len)))), (40, bif L 0 then some (.pointer (some ⟨b_m, 0, none⟩)) else none), (41, bif L 1 then some (vl1) else none), (42, bif L 2 then some (vI i1) else none), (43, bif L 3 then some (p5) else none), (44, bif L 4 then some (p6) else none), (45, bif L 5 then some (vU64 s3.At) else none), (46, bif L 6 then some (vb1) else none), (47, bif L 7 then some (vI n1) else none), (48, bif L 8 then some (vI n1) else none), (49, bif L 9 then some (vI (mini (wi ((len b) - n1)) (i32 s2.Len))) else none), (50, bif L 10 then some (vI (wi (n1 + (mini (wi ((len b) - n1)) (i32 s2.Len))))) else none), (51, bif L 11 then some (v1) else none)], [(some (cellsR b_m 97 [vm1, vm2]) : Option Res), (some (rowsX u8S false vm2 vsm1 rows1 none) : Option Res)], [Fact.sl RegionS vm1 m.L, Fact.sl SegS vl1 l, Fact.sl u8S vb1 b, (bif L 3 then Fact.pt SegS p5 s3 else Fact.tt), (bif L 4 then Fact.pt u64S p6 s3.At else Fact.tt), (bif L 11 then Fact.sl u8S v1 (sub b n1 (wi (n1 + (mini (wi ((len b) - n1)) (i32 s2.Len))))) else Fact.tt)]⟩ a w) [([], []), ([], [3, 4, 5]), ([], [3, 4, 5]), ([1, 2], [4, 5]), ([1, 2, 3], [5]), ([1, 2, 3, 4], []), ([], [11]), ([], [11]), ([], [10, 11]), ([], [10, 11]), ([8, 9], [11]), ([6, 7, 8, 9, 10], [])] rfl (by kernel_rfl) ?_ (steps_cons ?_ (steps_cons ?_ (steps_cons ?_ (steps_cons ?_ (steps_cons ?_ (steps_cons ?_ (steps_cons ?_ (steps_cons ?_ (steps_cons ?_ (steps_cons ?_ (steps_cons ?_ (steps_cons ?_ (steps_nil))))))))))))) ?_
      ·intro a w hs
       exact ⟨undef, undef, undef, hs.startF [40, 41, 42, 43, 44, 45, 46, 47, 48, 49, 50, 51] [0, 1] [0, 1, 2, 3, 4, 5] rfl rfl rfl rfl⟩
      ·intro L a w hv K Q hK
       obtain ⟨p5, p6, v1, hs⟩ := hv
       refine wpOp_go rfl rfl hs (OpT_move rfl rfl rfl rfl) ?_
       rintro _ rfl a' w' hs'
       exact hK a' w' ⟨p5, p6, v1, hs'.putF (i := 6) rfl [0, 1] [0, 1, 2, 3, 4, 5] rfl rfl rfl rfl⟩
      ·intro L a w hv K Q hK
       obtain ⟨p5, p6, v1, hs⟩ := hv
       refine wpOp_go rfl rfl hs (OpT_move rfl rfl rfl rfl) ?_
       rintro _ rfl a' w' hs'
       exact hK a' w' ⟨p5, p6, v1, hs'.putF (i := 7) rfl [0, 1] [0, 1, 2, 3, 4, 5] rfl rfl rfl rfl⟩
      ·intro L a w hv K Q hK
       obtain ⟨p5, p6, v1, hs⟩ := hv
       refine wpOp_go rfl rfl hs (OpT_move rfl rfl rfl rfl) ?_
       rintro _ rfl a' w' hs'
       exact hK a' w' ⟨p5, p6, v1, hs'.putF (i := 8) rfl [0, 1] [0, 1, 2, 3, 4, 5] rfl rfl rfl rfl⟩
      ·intro L a w hv K Q hK
       obtain ⟨p5, p6, v1, hs⟩ := hv
       refine wpOp_go rfl rfl hs (OpT_idxS rfl rfl rfl rfl rfl slF22 (i := 1) rfl hx4) ?_
       rintro _ ⟨p5', rfl⟩ a' w' hs'
       exact hK a' w' ⟨p5', p6, v1, hs'.putF (i := 9) rfl [0, 1] [0, 1, 2, 6, 4, 5] rfl rfl rfl rfl⟩
      ·intro L a w hv K Q hK
       obtain ⟨p5, p6, v1, hs⟩ := hv
       refine wpOp_go rfl rfl hs (OpT_fieldP (S' := u64S) (y := s3.At) rfl rfl rfl rfl fldF32x0 (i := 3) rfl (by intro h cs hr; subst hr; rfl)) ?_
       rintro _ ⟨p6', rfl⟩ a' w' hs'
       exact hK a' w' ⟨p5, p6', v1, hs'.putF (i := 10) rfl [0, 1] [0, 1, 2, 3, 6, 5] rfl rfl rfl rfl⟩
      ·intro L a w hv K Q hK
       obtain ⟨p5, p6, v1, hs⟩ := hv
       refine wpOp_go rfl rfl hs (OpT_loadP rfl rfl rfl rfl tyF29 (i := 4) rfl rfl) ?_
       rintro _ rfl a' w' hs'
       exact hK a' w' ⟨p5, p6, v1, hs'.putF (i := 11) rfl [0, 1] [0, 1, 2, 3, 4, 5] rfl rfl rfl rfl⟩
      ·intro L a w hv K Q hK
       obtain ⟨p5, p6, v1, hs⟩ := hv
       refine wpOp_go rfl rfl hs (OpT_move rfl rfl rfl rfl) ?_
       rintro _ rfl a' w' hs'
       exact hK a' w' ⟨p5, p6, v1, hs'.putF (i := 12) rfl [0, 1] [0, 1, 2, 3, 4, 5] rfl rfl rfl rfl⟩
      ·intro L a w hv K Q hK
       obtain ⟨p5, p6, v1, hs⟩ := hv
       refine wpOp_go rfl rfl hs (OpT_move rfl rfl rfl rfl) ?_
       rintro _ rfl a' w' hs'
       exact hK a' w' ⟨p5, p6, v1, hs'.putF (i := 13) rfl [0, 1] [0, 1, 2, 3, 4, 5] rfl rfl rfl rfl⟩
      ·intro L a w hv K Q hK
       obtain ⟨p5, p6, v1, hs⟩ := hv
       refine wpOp_go rfl rfl hs (OpT_move rfl rfl rfl rfl) ?_
       rintro _ rfl a' w' hs'
       exact hK a' w' ⟨p5, p6, v1, hs'.putF (i := 14) rfl [0, 1] [0, 1, 2, 3, 4, 5] rfl rfl rfl rfl⟩
      ·intro L a w hv K Q hK
       obtain ⟨p5, p6, v1, hs⟩ := hv
       refine wpOp_go rfl rfl hs (OpT_move rfl rfl rfl rfl) ?_
       rintro _ rfl a' w' hs'
       exact hK a' w' ⟨p5, p6, v1, hs'.putF (i := 15) rfl [0, 1] [0, 1, 2, 3, 4, 5] rfl rfl rfl rfl⟩
      ·intro L a w hv K Q hK
       obtain ⟨p5, p6, v1, hs⟩ := hv
       refine wpOp_go rfl rfl hs (OpT_bin rfl rfl rfl rfl rfl (bin_add_i (a := n1) (b := mini (wi ((len b) - n1)) (i32 s2.Len)))) ?_
       rintro _ rfl a' w' hs'
       exact hK a' w' ⟨p5, p6, v1, hs'.putF (i := 16) rfl [0, 1] [0, 1, 2, 3, 4, 5] rfl rfl rfl rfl⟩
      ·intro L a w hv K Q hK
       obtain ⟨p5, p6, v1, hs⟩ := hv
       refine wpOp_go rfl rfl hs (OpT_sliceLH (l := n1) (m := wi (n1 + (mini (wi ((len b) - n1)) (i32 s2.Len)))) rfl rfl rfl rfl rfl rfl slF35 (i := 2) rfl hc1) ?_
       rintro _ ⟨v1', rfl⟩ a' w' hs'
       exact hK a' w' ⟨p5, p6, v1', hs'.putF (i := 17) rfl [0, 1] [0, 1, 2, 3, 4, 6] rfl rfl rfl rfl⟩
      ·intro L a w hL hv
       rw [allTrue hL] at hv
       obtain ⟨p5, p6, v1, hs⟩ := hv
       refine gZ hs [0, 1, 2, 9, 10, 11, 40, 45, 51] [0, 1] [0, 1, 2, 5] rfl rfl rfl rfl ?_
       clear hs hL
       obtain ⟨write1, hx5, h⟩ := ob_e h
       refine TA_exP htb (by kernel_rfl) rfl rfl (OpT_callP [2, 3] (w_ref_Mem_Write02 hx5) [0, 1] [0, 3] rfl rfl rfl rfl rfl callee27 rfl rfl rfl rfl rfl) ?_
       rintro _ ⟨_, _, _, ⟨rfl, rfl, rfl⟩, rfl⟩
       refine TA_end rfl ?_
       refine tZ [0, 1, 2, 9, 10, 11] [0, 1] [0, 1, 2] rfl rfl rfl rfl ?_
       refine Tk_region (Tops_step rfl (OpT_move rfl rfl rfl rfl) ?_)
       refine Tops_step rfl (OpT_move rfl rfl rfl rfl) ?_
       refine Tops_step rfl (OpT_bin rfl rfl rfl rfl rfl (bin_add_i (a := n1) (b := mini (wi ((len b) - n1)) (i32 s2.Len)))) ?_
       refine Tops_step rfl (OpT_assign rfl rfl rfl rfl) ?_
       refine Tops_nil (tZ [0, 1, 2, 9, 10] [0, 1] [0, 1, 2] rfl rfl rfl rfl ?_)
       exact Tk_jmpS (HJ2 (write1.2, wi (n1 + (mini (wi ((len b) - n1)) (i32 s2.Len)))) h) [0, 1, 2, 9, 10] [0, 1] [0, 1, 2] rfl rfl rfl rfl
     ·replace h := br_f hg3 h
      refine Tk_condF (congrArg (fun b => some (Value.bool b)) hg3) ?_
      refine Tk_skip ?_
      exact Tk_jmpS (HJ2 (rows1, n1) h) [0, 1, 2, 9, 10] [0, 1] [0, 1, 2] rfl rfl rfl rfl
  ·replace h := br_f hg2 h
   refine Tk_condF (congrArg (fun b => some (Value.bool b)) hg2) ?_
   refine Tk_exit _ rfl ?_
   refine Tk_seq (Tk_region (Tops_step rfl (OpT_move rfl rfl rfl rfl) ?_))
   refine Tops_step rfl (OpT_assign rfl rfl rfl rfl) ?_
   refine Tops_step rfl (OpT_assign rfl rfl rfl rfl) ?_
   refine Tops_nil (tZ [6, 7] [0, 1] [0] rfl rfl rfl rfl ?_)
   obtain rfl := Option.some.inj h
   exact Tk_retV rfl rfl (resA (vs := [vI n1, vI (0 : Int)]) rfl ⟨rfl, rfl, trivial⟩) [0, 1] [] rfl rfl rfl ⟨rfl, rfl, rfl⟩

set_option maxRecDepth 100000 in
set_option maxHeartbeats 4000000 in
theorem w_ref_Cut05 {l : List Seg} {fromp1 : UInt64} {np2 : UInt64} {vl1 : Value} {r : (List Seg)} (h : ref_Cut05 l fromp1 np2 = some r) :
  Ctr Try.prog 68 #[vl1, vU64 fromp1, vU64 np2] [] [Fact.sl SegS vl1 l]
   (fun rv own shr => ∃ (w1 : Value), rv = w1 ∧ own = [(rowS SegS w1 r)] ∧ shr = []) := by
 unfold ref_Cut05 at h
 refine Ctr.mk (args := [vl1, vU64 fromp1, vU64 np2]) Try.func68 rfl rfl (fun R0 w0 B => ?_)
 refine Tk_seq (Tk_region (Tops_step rfl (OpT_assign rfl rfl rfl rfl) ?_))
 refine Tops_nil (tZ [0, 1, 2] [] [0] rfl rfl rfl rfl ?_)
 refine Tk_seq (Tk_region (Tops_step rfl (OpT_assign rfl rfl rfl rfl) ?_))
 refine Tops_nil (Tk_seq (Tk_seq (Tk_region (Tops_step rfl (OpT_assign rfl rfl rfl rfl) ?_))))
 refine Tops_nil (Tk_block (Tk_nilrow SegS ?_))
 refine Tk_loopS (σ := UInt64 × UInt64 × (List Seg) × Int × Value) [0, 1, 2, 7, 8] [0] [0] (fun s => ⟨[(0, some (vl1)), (1, some (vU64 s.1)), (2, some (vU64 s.2.1)), (7, some (s.2.2.2.2)), (8, some (vI s.2.2.2.1))], [some (rowS SegS s.2.2.2.2 s.2.2.1)], [Fact.sl SegS vl1 l]⟩) (fun nf1 s => ref_Cut05L1 l nf1 s.1 s.2.1 s.2.2.1 s.2.2.2.1 = some r) fuel (fromp1, np2, [], (0 : Int), (.slice none 0 0)) h rfl rfl rfl rfl rfl (fun s h => by cases h) ?_
 rintro nf1 ⟨from1, n1, out1, i1, v1⟩ h
 replace h : ref_Cut05L1B l (ref_Cut05L1 l nf1) from1 n1 out1 i1 = some r := h
 unfold ref_Cut05L1B at h
 refine Tk_seq (Tk_seq (Tk_region (Tops_step rfl (OpT_move rfl rfl rfl rfl) ?_)))
 refine Tops_step rfl (OpT_move rfl rfl rfl rfl) ?_
 refine Tops_step rfl (OpT_lenS rfl rfl rfl rfl Try.underlying22 (i := 0) rfl) ?_
 refine Tops_step rfl (OpT_bin rfl rfl rfl rfl rfl (bin_lss_i (a := i1) (b := len l))) ?_
 refine Tops_step rfl (OpT_move rfl rfl rfl rfl) ?_
 rcases Bool.eq_false_or_eq_true (decide (i1 < (len l))) with hg1 | hg1
 ·replace h := br_t hg1 h
  refine Tops_yes rfl rfl (congrArg (fun b => some (Value.bool b)) hg1) (OpT_move rfl rfl rfl rfl) ?_
  rintro _ rfl
  obtain ⟨check1, hx1, h⟩ := ob_e h
  refine Tops_yes rfl rfl (congrArg (fun b => some (Value.bool b)) hg1) (OpT_call (w_ref_Check05 hx1) [] [0] rfl rfl rfl rfl rfl callee11 rfl rfl rfl rfl) ?_
  rintro _ ⟨_, _, _, ⟨rfl, rfl, rfl⟩, rfl⟩
  refine Tops_yes rfl rfl (congrArg (fun b => some (Value.bool b)) hg1) (OpT_bin rfl rfl rfl rfl rfl (bin_eql_i (a := check1) (b := (0 : Int)))) ?_
  rintro _ rfl
  refine Tops_step rfl (OpT_pickT rfl rfl rfl (congrArg (fun b => some (Value.bool b)) hg1) rfl) ?_
  refine Tops_nil (tZ [0, 1, 2, 7, 8, 20] [0] [0] rfl rfl rfl rfl ?_)
  rcases Bool.eq_false_or_eq_true (check1 == (0 : Int)) with hg2 | hg2
  ·replace h := br_t hg2 h
   refine Tk_condT (congrArg (fun b => some (Value.bool b)) hg2) ?_
   refine Tk_skip (Tk_seq (Tk_block (Tk_seq (Tk_region (Tops_step rfl (OpT_move rfl rfl rfl rfl) ?_)))))
   refine Tops_step rfl (OpT_move rfl rfl rfl rfl) ?_
   obtain ⟨s1, hx2, h⟩ := ob_e h
   refine Tops_ex rfl (OpT_idxS rfl rfl rfl rfl rfl slF22 (i := 0) rfl hx2) fun p1 => ?_
   refine Tops_step rfl (OpT_loadPA (vs := [vU64 s1.At, vU32 s1.Len, vB s1.Write]) rfl rfl rfl rfl tyF32 (i := 1) rfl rfl) ?_
   refine Tops_ex rfl (OpT_alloc rfl rfl rfl tyZ32) fun b1 => ?_
   refine Tops_step rfl (OpT_storeC (cs' := [vU64 s1.At, vU32 s1.Len, vB s1.Write]) rfl rfl rfl rfl tyF32 (i := 1) rfl rfl rfl (one_of rfl) rfl) ?_
   refine Tops_nil (tZ [0, 1, 2, 7, 8, 9] [0, 1] [0] rfl rfl rfl rfl ?_)
   refine Tk_seq (Tk_region (Tops_step rfl (OpT_fieldC rfl rfl rfl rfl fldF32x1) ?_))
   refine Tops_step rfl (OpT_loadC rfl rfl rfl rfl tyF30 (i := 1) rfl rfl) ?_
   refine Tops_step rfl (OpT_cnv rfl rfl rfl rfl (cnv_u32_u64 (n := s1.Len) Try.underlying30 Try.underlying29)) ?_
   refine Tops_step rfl (OpT_assign rfl rfl rfl rfl) ?_
   refine Tops_nil (tZ [0, 1, 2, 7, 8, 9, 10] [0, 1] [0] rfl rfl rfl rfl ?_)
   refine Tk_seq (Tk_seq (Tk_region (Tops_step rfl (OpT_move rfl rfl rfl rfl) ?_)))
   refine Tops_step rfl (OpT_move rfl rfl rfl rfl) ?_
   refine Tops_step rfl (OpT_bin rfl rfl rfl rfl rfl (bin_geq_u64 (a := from1) (b := s1.Len.toUInt64))) ?_
   refine Tops_nil (tZ [0, 1, 2, 7, 8, 9, 10, 32] [0, 1] [0] rfl rfl rfl rfl ?_)
   rcases Bool.eq_false_or_eq_true (decide (from1 ≥ s1.Len.toUInt64)) with hg3 | hg3
   ·replace h := br_t hg3 h
    refine Tk_condT (congrArg (fun b => some (Value.bool b)) hg3) ?_
    refine Tk_seq (Tk_region (Tops_step rfl (OpT_move rfl rfl rfl rfl) ?_))
    refine Tops_step rfl (OpT_move rfl rfl rfl rfl) ?_
    refine Tops_step rfl (OpT_bin rfl rfl rfl rfl rfl (bin_sub_u64 (a := from1) (b := s1.Len.toUInt64))) ?_
    refine Tops_step rfl (OpT_assign rfl rfl rfl rfl) ?_
    refine Tops_nil (tZ [0, 1, 2, 7, 8] [0] [0] rfl rfl rfl rfl ?_)
    refine Tk_exit _ rfl ?_
    refine Tk_region (Tops_step rfl (OpT_move rfl rfl rfl rfl) ?_)
    refine Tops_step rfl (OpT_bin rfl rfl rfl rfl rfl (bin_add_i (a := i1) (b := (1 : Int)))) ?_
    refine Tops_step rfl (OpT_assign rfl rfl rfl rfl) ?_
    refine Tops_nil (tZ [0, 1, 2, 7, 8] [0] [0] rfl rfl rfl rfl ?_)
    exact Tk_backS (from1 - s1.Len.toUInt64, n1, out1, wi (i1 + (1 : Int)), v1) h [0, 1, 2, 7, 8] [0] [0] rfl rfl rfl rfl rfl
   ·replace h := br_f hg3 h
    refine Tk_condF (congrArg (fun b => some (Value.bool b)) hg3) ?_
    refine Tk_skip (Tk_seq (Tk_region (Tops_step rfl (OpT_move rfl rfl rfl rfl) ?_)))
    refine Tops_step rfl (OpT_move rfl rfl rfl rfl) ?_
    refine Tops_step rfl (OpT_bin rfl rfl rfl rfl rfl (bin_sub_u64 (a := s1.Len.toUInt64) (b := from1))) ?_
    refine Tops_step rfl (OpT_move rfl rfl rfl rfl) ?_
    refine Tops_step rfl (OpT_min_u64 (u := s1.Len.toUInt64 - from1) (v := n1) rfl rfl rfl rfl rfl) ?_
    refine Tops_step rfl (OpT_assign rfl rfl rfl rfl) ?_
    refine Tops_nil (tZ [0, 1, 2, 7, 8, 9, 11] [0, 1] [0] rfl rfl rfl rfl ?_)
    refine Tk_seq (Tk_seq (Tk_region (Tops_step rfl (OpT_move rfl rfl rfl rfl) ?_)))
    refine Tops_step rfl (OpT_bin rfl rfl rfl rfl rfl (bin_gtr_u64 (a := minu64 (s1.Len.toUInt64 - from1) n1) (b := (0 : UInt64)))) ?_
    refine Tops_nil (tZ [0, 1, 2, 7, 8, 9, 11, 42] [0, 1] [0] rfl rfl rfl rfl ?_)
    refine Tk_join (α := (List Seg) × Value) (fun s => ⟨[(0, some (vl1)), (2, some (vU64 n1)), (7, some (s.2)), (8, some (vI i1)), (11, some (vU64 (minu64 (s1.Len.toUInt64 - from1) n1)))], [some (rowS SegS s.2 s.1)], [Fact.sl SegS vl1 l]⟩) (fun s => ref_Cut05J2 from1 n1 i1 (ref_Cut05L1 l nf1) s1 s.1 = some r) ?_ ?_
    ·rintro ⟨out2, v2⟩ h
     replace h : ref_Cut05J2 from1 n1 i1 (ref_Cut05L1 l nf1) s1 out2 = some r := h
     unfold ref_Cut05J2 at h
     refine Tk_region (Tops_step rfl (OpT_move rfl rfl rfl rfl) ?_)
     refine Tops_step rfl (OpT_move rfl rfl rfl rfl) ?_
     refine Tops_step rfl (OpT_bin rfl rfl rfl rfl rfl (bin_sub_u64 (a := n1) (b := minu64 (s1.Len.toUInt64 - from1) n1))) ?_
     refine Tops_step rfl (OpT_assign rfl rfl rfl rfl) ?_
     refine Tops_step rfl (OpT_assign rfl rfl rfl rfl) ?_
     refine Tops_nil (tZ [0, 2, 7, 8, 1] [0] [0] rfl rfl rfl rfl ?_)
     refine Tk_blk (Tk_region (Tops_step rfl (OpT_move rfl rfl rfl rfl) ?_))
     refine Tops_step rfl (OpT_bin rfl rfl rfl rfl rfl (bin_add_i (a := i1) (b := (1 : Int)))) ?_
     refine Tops_step rfl (OpT_assign rfl rfl rfl rfl) ?_
     refine Tops_nil (tZ [0, 2, 7, 8, 1] [0] [0] rfl rfl rfl rfl ?_)
     exact Tk_backS ((0 : UInt64), n1 - (minu64 (s1.Len.toUInt64 - from1) n1), out2, wi (i1 + (1 : Int)), v2) h [0, 1, 2, 7, 8] [0] [0] rfl rfl rfl rfl rfl
    ·intro HJ1
     rcases Bool.eq_false_or_eq_true (decide ((minu64 (s1.Len.toUInt64 - from1) n1) > (0 : UInt64))) with hg4 | hg4
     ·replace h := br_t hg4 h
      refine Tk_condT (congrArg (fun b => some (Value.bool b)) hg4) ?_
      refine Tk_region (Tops_step rfl (OpT_move rfl rfl rfl rfl) ?_)
      refine Tops_step rfl (OpT_fieldC rfl rfl rfl rfl fldF32x0) ?_
      refine Tops_step rfl (OpT_loadC rfl rfl rfl rfl tyF29 (i := 1) rfl rfl) ?_
      refine Tops_step rfl (OpT_move rfl rfl rfl rfl) ?_
      refine Tops_step rfl (OpT_bin rfl rfl rfl rfl rfl (bin_add_u64 (a := s1.At) (b := from1))) ?_
      refine Tops_step rfl (OpT_move rfl rfl rfl rfl) ?_
      refine Tops_step rfl (OpT_cnv rfl rfl rfl rfl (cnv_u64_u32 (n := minu64 (s1.Len.toUInt64 - from1) n1) Try.underlying29 Try.underlying30)) ?_
      refine Tops_step rfl (OpT_fieldC rfl rfl rfl rfl fldF32x2) ?_
      refine Tops_step rfl (OpT_loadC rfl rfl rfl rfl tyF4 (i := 1) rfl rfl) ?_
      refine Tops_step rfl (OpT_build (v := .agg #[vU64 (s1.At + from1), vU32 ((minu64 (s1.Len.toUInt64 - from1) n1).toUInt32), vB s1.Write]) rfl rfl rfl rfl (bldV (by kernel_rfl))) ?_
      refine Tops_ex rfl (OpT_buildSlice (S := SegS) (xs := [(Seg.mk (s1.At + from1) ((minu64 (s1.Len.toUInt64 - from1) n1).toUInt32) s1.Write)]) (css := [[vU64 (s1.At + from1), vU32 ((minu64 (s1.Len.toUInt64 - from1) n1).toUInt32), vB s1.Write]]) (cs := [vU64 (s1.At + from1), vU32 ((minu64 (s1.Len.toUInt64 - from1) n1).toUInt32), vB s1.Write]) (e := 32) rfl rfl rfl rfl (bldF slF22 (by decide) (by kernel_rfl)) rfl rfl rfl rfl (rel_plainD (S := SegS) (xs := [(Seg.mk (s1.At + from1) ((minu64 (s1.Len.toUInt64 - from1) n1).toUInt32) s1.Write)]) (css := [[vU64 (s1.At + from1), vU32 ((minu64 (s1.Len.toUInt64 - from1) n1).toUInt32), vB s1.Write]]) rfl rfl)) fun v3 => ?_
      obtain ⟨hc1, h⟩ := chk_e h
      refine Tops_ex rfl (OpT_appendB (S := SegS) rfl rfl rfl rfl rfl rfl slF22 (i := 0) (j := 2) rfl rfl hc1) fun v4 => ?_
      refine Tops_step rfl (OpT_assign rfl rfl rfl rfl) ?_
      refine Tops_nil (tZ [0, 2, 7, 8, 11] [0] [0] rfl rfl rfl rfl ?_)
      exact Tk_jmpS (HJ1 (out1 ++ [(Seg.mk (s1.At + from1) ((minu64 (s1.Len.toUInt64 - from1) n1).toUInt32) s1.Write)], v4) h) [0, 2, 7, 8, 11] [0] [0] rfl rfl rfl rfl
     ·replace h := br_f hg4 h
      refine Tk_condF (congrArg (fun b => some (Value.bool b)) hg4) ?_
      refine Tk_skip ?_
      exact Tk_jmpS (HJ1 (out1, v1) h) [0, 2, 7, 8, 11] [0] [0] rfl rfl rfl rfl
  ·replace h := br_f hg2 h
   refine Tk_condF (congrArg (fun b => some (Value.bool b)) hg2) ?_
   refine Tk_exit _ rfl ?_
   refine Tk_seq (Tk_region (Tops_step rfl (OpT_move rfl rfl rfl rfl) ?_))
   refine Tops_step rfl (OpT_assign rfl rfl rfl rfl) ?_
   refine Tops_nil (tZ [6] [0] [] rfl rfl rfl rfl ?_)
   obtain rfl := Option.some.inj h
   exact Tk_retV rfl rfl (resA (vs := [v1]) rfl ⟨rfl, trivial⟩) [0] [] rfl rfl rfl ⟨v1, rfl, rfl, rfl⟩
 ·replace h := br_f hg1 h
  refine Tops_no rfl rfl (congrArg (fun b => some (Value.bool b)) hg1) rfl rfl ?_
  refine Tops_no rfl rfl (congrArg (fun b => some (Value.bool b)) hg1) rfl rfl ?_
  refine Tops_no rfl rfl (congrArg (fun b => some (Value.bool b)) hg1) rfl rfl ?_
  refine Tops_step rfl (OpT_pickF rfl rfl rfl (congrArg (fun b => some (Value.bool b)) hg1) rfl) ?_
  refine Tops_nil (tZ [0, 1, 2, 7, 8, 20] [0] [0] rfl rfl rfl rfl ?_)
  refine Tk_condF rfl ?_
  refine Tk_exit _ rfl ?_
  refine Tk_seq (Tk_region (Tops_step rfl (OpT_move rfl rfl rfl rfl) ?_))
  refine Tops_step rfl (OpT_assign rfl rfl rfl rfl) ?_
  refine Tops_nil (tZ [6] [0] [] rfl rfl rfl rfl ?_)
  obtain rfl := Option.some.inj h
  exact Tk_retV rfl rfl (resA (vs := [v1]) rfl ⟨rfl, trivial⟩) [0] [] rfl rfl rfl ⟨v1, rfl, rfl, rfl⟩
end Go.Proofs.Ytkmjpgfbcklopaa
