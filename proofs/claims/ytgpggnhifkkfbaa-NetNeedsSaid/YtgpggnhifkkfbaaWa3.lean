/- The functions do what the plain words say: each is walked once. No statement of the seat is proved here; no condition. -/
import Derived.Test.YtgpggnhifkkfbaaWa2
namespace Go.Proofs.Ytgpggnhifkkfbaa

set_option maxRecDepth 100000 in
set_option maxHeartbeats 4000000 in
theorem w_ref_Total05 {l : List Seg} {vl1 : Value} {r : (UInt64 × UInt64)} (h : ref_Total05 l = some r) :
    Ctr Try.prog 39 #[vl1] [] [Fact.sl SegS vl1 l]
      (fun rv own shr => rv = .tuple #[vU64 r.1, vU64 r.2] ∧ own = [] ∧ shr = []) := by
  unfold ref_Total05 at h
  refine Ctr.mk (args := [vl1]) Try.func39 rfl rfl (fun R0 w0 B => ?_)
  refine Tk_seq ?_
  refine Tk_region ?_
  refine Tops_step rfl (OpT_assign rfl rfl rfl rfl) ?_
  refine Tops_step rfl (OpT_assign rfl rfl rfl rfl) ?_
  refine Tops_nil ?_
  refine Tk_wkS (fr' := [(0, some (vl1))]) (own' := []) (shr' := [Fact.sl SegS vl1 l]) [0] [] [0] rfl rfl rfl rfl ?_
  refine Tk_seq ?_
  refine Tk_region ?_
  refine Tops_step rfl (OpT_assign rfl rfl rfl rfl) ?_
  refine Tops_step rfl (OpT_assign rfl rfl rfl rfl) ?_
  refine Tops_nil ?_
  refine Tk_seq ?_
  refine Tk_seq ?_
  refine Tk_region ?_
  refine Tops_step rfl (OpT_assign rfl rfl rfl rfl) ?_
  refine Tops_nil ?_
  refine Tk_block ?_
  refine Tk_loopS (σ := UInt64 × UInt64 × Int) [0, 4, 5, 6] [] [0] (fun s => ⟨[(0, some (vl1)), (4, some (vU64 s.1)), (5, some (vU64 s.2.1)), (6, some (vI s.2.2))], [], [Fact.sl SegS vl1 l]⟩) (fun nf s => ref_Total05L1 l nf s.1 s.2.1 s.2.2 = some r) fuel ((0 : UInt64), (0 : UInt64), (0 : Int)) h rfl rfl rfl rfl rfl (fun s h => by cases h) ?_
  rintro nf ⟨read1, write1, i1⟩ h
  replace h : ref_Total05L1B l (ref_Total05L1 l nf) read1 write1 i1 = some r := h
  unfold ref_Total05L1B at h
  refine Tk_seq ?_
  refine Tk_seq ?_
  refine Tk_region ?_
  refine Tops_step rfl (OpT_move rfl rfl rfl rfl) ?_
  refine Tops_step rfl (OpT_move rfl rfl rfl rfl) ?_
  refine Tops_step rfl (OpT_lenS rfl rfl rfl rfl Try.underlying54 (i := 0) rfl) ?_
  refine Tops_step rfl (OpT_bin rfl rfl rfl rfl rfl (bin_lss_i (a := i1) (b := len l))) ?_
  refine Tops_step rfl (OpT_move rfl rfl rfl rfl) ?_
  rcases Bool.eq_false_or_eq_true (decide (i1 < (len l))) with hg1 | hg1
  · replace h := br_t hg1 h
    refine Tops_yes rfl rfl (congrArg (fun b => some (Value.bool b)) hg1) (OpT_move rfl rfl rfl rfl) ?_
    rintro _ rfl
    obtain ⟨check1, hx1, h⟩ := ob_e h
    refine Tops_yes rfl rfl (congrArg (fun b => some (Value.bool b)) hg1) (OpT_call (w_ref_Check05 hx1) [] [0] rfl rfl rfl rfl rfl callee48 rfl rfl rfl rfl) ?_
    rintro _ ⟨_, _, _, ⟨rfl, rfl, rfl⟩, rfl⟩
    refine Tops_yes rfl rfl (congrArg (fun b => some (Value.bool b)) hg1) (OpT_bin rfl rfl rfl rfl rfl (bin_eql_i (a := check1) (b := (0 : Int)))) ?_
    rintro _ rfl
    refine Tops_step rfl (OpT_pickT rfl rfl rfl (congrArg (fun b => some (Value.bool b)) hg1) rfl) ?_
    refine Tops_nil ?_
    refine Tk_wkS (fr' := [(0, some (vl1)), (4, some (vU64 read1)), (5, some (vU64 write1)), (6, some (vI i1)), (15, some (vB (check1 == (0 : Int))))]) (own' := []) (shr' := [Fact.sl SegS vl1 l]) [0, 4, 5, 6, 15] [] [0] rfl rfl rfl rfl ?_
    rcases Bool.eq_false_or_eq_true (check1 == (0 : Int)) with hg2 | hg2
    · replace h := br_t hg2 h
      refine Tk_condT (congrArg (fun b => some (Value.bool b)) hg2) ?_
      refine Tk_skip ?_
      refine Tk_seq ?_
      refine Tk_join (α := UInt64 × UInt64) (fun s => ⟨[(0, some (vl1)), (4, some (vU64 s.1)), (5, some (vU64 s.2)), (6, some (vI i1))], [], [Fact.sl SegS vl1 l]⟩) (fun s => ref_Total05J2 i1 (ref_Total05L1 l nf) s.1 s.2 = some r) ?_ ?_
      · rintro ⟨read2, write2⟩ h
        replace h : ref_Total05J2 i1 (ref_Total05L1 l nf) read2 write2 = some r := h
        unfold ref_Total05J2 at h
        refine Tk_region ?_
        refine Tops_step rfl (OpT_move rfl rfl rfl rfl) ?_
        refine Tops_step rfl (OpT_bin rfl rfl rfl rfl rfl (bin_add_i (a := i1) (b := (1 : Int)))) ?_
        refine Tops_step rfl (OpT_assign rfl rfl rfl rfl) ?_
        refine Tops_nil ?_
        refine Tk_wkS (fr' := [(0, some (vl1)), (4, some (vU64 read2)), (5, some (vU64 write2)), (6, some (vI (wi (i1 + (1 : Int)))))]) (own' := []) (shr' := [Fact.sl SegS vl1 l]) [0, 4, 5, 6] [] [0] rfl rfl rfl rfl ?_
        exact Tk_backS (read2, write2, wi (i1 + (1 : Int))) h [0, 4, 5, 6] [] [0] rfl rfl rfl rfl rfl
      · intro HJ1
        refine Tk_block ?_
        refine Tk_seq ?_
        refine Tk_region ?_
        refine Tops_step rfl (OpT_move rfl rfl rfl rfl) ?_
        refine Tops_step rfl (OpT_move rfl rfl rfl rfl) ?_
        obtain ⟨s1, hx2, h⟩ := ob_e h
        refine Tops_ex rfl (OpT_idxS rfl rfl rfl rfl rfl slF54 (i := 0) rfl hx2) fun p1 => ?_
        refine Tops_ex rfl (OpT_fieldP (S' := bS) (y := s1.Write) rfl rfl rfl rfl fldF73x2 (i := 1) rfl (by intro h cs hr; subst hr; rfl)) fun p2 => ?_
        refine Tops_step rfl (OpT_loadP rfl rfl rfl rfl tyF4 (i := 2) rfl rfl) ?_
        refine Tops_nil ?_
        refine Tk_wkS (fr' := [(0, some (vl1)), (4, some (vU64 read1)), (5, some (vU64 write1)), (6, some (vI i1)), (22, some (vB s1.Write))]) (own' := []) (shr' := [Fact.sl SegS vl1 l]) [0, 4, 5, 6, 22] [] [0] rfl rfl rfl rfl ?_
        refine Tk_join (α := UInt64 × UInt64) (fun s => ⟨[(0, some (vl1)), (4, some (vU64 s.1)), (5, some (vU64 s.2)), (6, some (vI i1))], [], [Fact.sl SegS vl1 l]⟩) (fun s => ref_Total05J3 i1 (ref_Total05L1 l nf) s.1 s.2 = some r) ?_ ?_
        · rintro ⟨read3, write3⟩ h
          replace h : ref_Total05J3 i1 (ref_Total05L1 l nf) read3 write3 = some r := h
          unfold ref_Total05J3 at h
          refine Tk_blk ?_
          exact Tk_jmpS (HJ1 (read3, write3) h) [0, 4, 5, 6] [] [0] rfl rfl rfl rfl
        · intro HJ2
          rcases Bool.eq_false_or_eq_true (s1.Write) with hg3 | hg3
          · replace h := br_t hg3 h
            refine Tk_condT (congrArg (fun b => some (Value.bool b)) hg3) ?_
            refine Tk_region ?_
            refine Tops_step rfl (OpT_move rfl rfl rfl rfl) ?_
            refine Tops_step rfl (OpT_move rfl rfl rfl rfl) ?_
            refine Tops_step rfl (OpT_move rfl rfl rfl rfl) ?_
            obtain ⟨s2, hx3, h⟩ := ob_e h
            refine Tops_ex rfl (OpT_idxS rfl rfl rfl rfl rfl slF54 (i := 0) rfl hx3) fun p3 => ?_
            refine Tops_ex rfl (OpT_fieldP (S' := u32S) (y := s2.Len) rfl rfl rfl rfl fldF73x1 (i := 1) rfl (by intro h cs hr; subst hr; rfl)) fun p4 => ?_
            refine Tops_step rfl (OpT_loadP rfl rfl rfl rfl tyF71 (i := 2) rfl rfl) ?_
            refine Tops_step rfl (OpT_cnv rfl rfl rfl rfl (cnv_u32_u64 (n := s2.Len) Try.underlying71 Try.underlying53)) ?_
            refine Tops_step rfl (OpT_bin rfl rfl rfl rfl rfl (bin_add_u64 (a := write1) (b := s2.Len.toUInt64))) ?_
            refine Tops_step rfl (OpT_assign rfl rfl rfl rfl) ?_
            refine Tops_nil ?_
            refine Tk_wkS (fr' := [(0, some (vl1)), (4, some (vU64 read1)), (5, some (vU64 (write1 + s2.Len.toUInt64))), (6, some (vI i1))]) (own' := []) (shr' := [Fact.sl SegS vl1 l]) [0, 4, 5, 6] [] [0] rfl rfl rfl rfl ?_
            exact Tk_jmpS (HJ2 (read1, write1 + s2.Len.toUInt64) h) [0, 4, 5, 6] [] [0] rfl rfl rfl rfl
          · replace h := br_f hg3 h
            refine Tk_condF (congrArg (fun b => some (Value.bool b)) hg3) ?_
            refine Tk_region ?_
            refine Tops_step rfl (OpT_move rfl rfl rfl rfl) ?_
            refine Tops_step rfl (OpT_move rfl rfl rfl rfl) ?_
            refine Tops_step rfl (OpT_move rfl rfl rfl rfl) ?_
            obtain ⟨s3, hx4, h⟩ := ob_e h
            refine Tops_ex rfl (OpT_idxS rfl rfl rfl rfl rfl slF54 (i := 0) rfl hx4) fun p5 => ?_
            refine Tops_ex rfl (OpT_fieldP (S' := u32S) (y := s3.Len) rfl rfl rfl rfl fldF73x1 (i := 1) rfl (by intro h cs hr; subst hr; rfl)) fun p6 => ?_
            refine Tops_step rfl (OpT_loadP rfl rfl rfl rfl tyF71 (i := 2) rfl rfl) ?_
            refine Tops_step rfl (OpT_cnv rfl rfl rfl rfl (cnv_u32_u64 (n := s3.Len) Try.underlying71 Try.underlying53)) ?_
            refine Tops_step rfl (OpT_bin rfl rfl rfl rfl rfl (bin_add_u64 (a := read1) (b := s3.Len.toUInt64))) ?_
            refine Tops_step rfl (OpT_assign rfl rfl rfl rfl) ?_
            refine Tops_nil ?_
            refine Tk_wkS (fr' := [(0, some (vl1)), (4, some (vU64 (read1 + s3.Len.toUInt64))), (5, some (vU64 write1)), (6, some (vI i1))]) (own' := []) (shr' := [Fact.sl SegS vl1 l]) [0, 4, 5, 6] [] [0] rfl rfl rfl rfl ?_
            exact Tk_jmpS (HJ2 (read1 + s3.Len.toUInt64, write1) h) [0, 4, 5, 6] [] [0] rfl rfl rfl rfl
    · replace h := br_f hg2 h
      refine Tk_condF (congrArg (fun b => some (Value.bool b)) hg2) ?_
      refine Tk_exit _ rfl ?_
      refine Tk_seq ?_
      refine Tk_region ?_
      refine Tops_step rfl (OpT_move rfl rfl rfl rfl) ?_
      refine Tops_step rfl (OpT_move rfl rfl rfl rfl) ?_
      refine Tops_step rfl (OpT_assign rfl rfl rfl rfl) ?_
      refine Tops_step rfl (OpT_assign rfl rfl rfl rfl) ?_
      refine Tops_nil ?_
      refine Tk_wkS (fr' := [(2, some (vU64 read1)), (3, some (vU64 write1))]) (own' := []) (shr' := []) [2, 3] [] [] rfl rfl rfl rfl ?_
      obtain rfl := Option.some.inj h
      exact Tk_retV rfl rfl (resA (vs := [vU64 read1, vU64 write1]) rfl ⟨rfl, rfl, trivial⟩) [] [] rfl rfl rfl ⟨rfl, rfl, rfl⟩
  · replace h := br_f hg1 h
    refine Tops_no rfl rfl (congrArg (fun b => some (Value.bool b)) hg1) rfl rfl ?_
    refine Tops_no rfl rfl (congrArg (fun b => some (Value.bool b)) hg1) rfl rfl ?_
    refine Tops_no rfl rfl (congrArg (fun b => some (Value.bool b)) hg1) rfl rfl ?_
    refine Tops_step rfl (OpT_pickF rfl rfl rfl (congrArg (fun b => some (Value.bool b)) hg1) rfl) ?_
    refine Tops_nil ?_
    refine Tk_wkS (fr' := [(0, some (vl1)), (4, some (vU64 read1)), (5, some (vU64 write1)), (6, some (vI i1)), (15, some (vB false))]) (own' := []) (shr' := [Fact.sl SegS vl1 l]) [0, 4, 5, 6, 15] [] [0] rfl rfl rfl rfl ?_
    refine Tk_condF rfl ?_
    refine Tk_exit _ rfl ?_
    refine Tk_seq ?_
    refine Tk_region ?_
    refine Tops_step rfl (OpT_move rfl rfl rfl rfl) ?_
    refine Tops_step rfl (OpT_move rfl rfl rfl rfl) ?_
    refine Tops_step rfl (OpT_assign rfl rfl rfl rfl) ?_
    refine Tops_step rfl (OpT_assign rfl rfl rfl rfl) ?_
    refine Tops_nil ?_
    refine Tk_wkS (fr' := [(2, some (vU64 read1)), (3, some (vU64 write1))]) (own' := []) (shr' := []) [2, 3] [] [] rfl rfl rfl rfl ?_
    obtain rfl := Option.some.inj h
    exact Tk_retV rfl rfl (resA (vs := [vU64 read1, vU64 write1]) rfl ⟨rfl, rfl, trivial⟩) [] [] rfl rfl rfl ⟨rfl, rfl, rfl⟩

set_option maxRecDepth 100000 in
set_option maxHeartbeats 4000000 in
theorem w_law25zrooms {l : List Int} {vl1 : Value} {r : (List (List Seg))} (h : law25zrooms l = some r) :
    Ctr Try.prog 45 #[vl1] [] [Fact.sl iS vl1 l]
      (fun rv own shr => ∃ (w1 : Value), rv = w1 ∧ own = [(rowS (Shape.slice SegS) w1 r)] ∧ shr = []) := by
  unfold law25zrooms at h
  refine Ctr.mk (args := [vl1]) Try.func45 rfl rfl (fun R0 w0 B => ?_)
  refine Tk_seq ?_
  refine Tk_region ?_
  refine Tops_step rfl (OpT_assign rfl rfl rfl rfl) ?_
  refine Tops_nil ?_
  refine Tk_wkS (fr' := [(0, some (vl1))]) (own' := []) (shr' := [Fact.sl iS vl1 l]) [0] [] [0] rfl rfl rfl rfl ?_
  refine Tk_seq ?_
  refine Tk_region ?_
  refine Tops_step rfl (OpT_assign rfl rfl rfl rfl) ?_
  refine Tops_nil ?_
  refine Tk_seq ?_
  refine Tk_region ?_
  refine Tops_step rfl (OpT_assign rfl rfl rfl rfl) ?_
  refine Tops_nil ?_
  refine Tk_seq ?_
  refine Tk_seq ?_
  refine Tk_region ?_
  refine Tops_step rfl (OpT_assign rfl rfl rfl rfl) ?_
  refine Tops_nil ?_
  refine Tk_block ?_
  refine Tk_nilrow (Shape.slice SegS) ?_
  refine Tk_loopS (σ := UInt64 × (List (List Seg)) × Int × Value) [0, 3, 4, 5] [0] [0] (fun s => ⟨[(0, some (vl1)), (3, some (vU64 s.1)), (4, some (s.2.2.2)), (5, some (vI s.2.2.1))], [some (rowS (Shape.slice SegS) s.2.2.2 s.2.1)], [Fact.sl iS vl1 l]⟩) (fun nf s => law25zroomsL1 l nf s.1 s.2.1 s.2.2.1 = some r) fuel ((100 : UInt64), [], (0 : Int), (.slice none 0 0)) h rfl rfl rfl rfl rfl (fun s h => by cases h) ?_
  rintro nf ⟨at1, out1, i1, v1⟩ h
  replace h : law25zroomsL1B l (law25zroomsL1 l nf) at1 out1 i1 = some r := h
  unfold law25zroomsL1B at h
  refine Tk_seq ?_
  refine Tk_seq ?_
  refine Tk_region ?_
  refine Tops_step rfl (OpT_move rfl rfl rfl rfl) ?_
  refine Tops_step rfl (OpT_move rfl rfl rfl rfl) ?_
  refine Tops_step rfl (OpT_lenS rfl rfl rfl rfl Try.underlying76 (i := 0) rfl) ?_
  refine Tops_step rfl (OpT_bin rfl rfl rfl rfl rfl (bin_lss_i (a := i1) (b := len l))) ?_
  refine Tops_nil ?_
  refine Tk_wkS (fr' := [(0, some (vl1)), (3, some (vU64 at1)), (4, some (v1)), (5, some (vI i1)), (9, some (vB (decide (i1 < (len l)))))]) (own' := [some (rowS (Shape.slice SegS) v1 out1)]) (shr' := [Fact.sl iS vl1 l]) [0, 3, 4, 5, 9] [0] [0] rfl rfl rfl rfl ?_
  rcases Bool.eq_false_or_eq_true (decide (i1 < (len l))) with hg1 | hg1
  · replace h := br_t hg1 h
    refine Tk_condT (congrArg (fun b => some (Value.bool b)) hg1) ?_
    refine Tk_skip ?_
    refine Tk_seq ?_
    refine Tk_block ?_
    refine Tk_seq ?_
    refine Tk_region ?_
    refine Tops_step rfl (OpT_move rfl rfl rfl rfl) ?_
    refine Tops_step rfl (OpT_move rfl rfl rfl rfl) ?_
    refine Tops_step rfl (OpT_move rfl rfl rfl rfl) ?_
    refine Tops_step rfl (OpT_move rfl rfl rfl rfl) ?_
    obtain ⟨y1, hx1, h⟩ := ob_e h
    refine Tops_ex rfl (OpT_idxS rfl rfl rfl rfl rfl slF76 (i := 0) rfl hx1) fun p1 => ?_
    refine Tops_step rfl (OpT_loadP rfl rfl rfl rfl tyF3 (i := 1) rfl rfl) ?_
    refine Tops_step rfl (OpT_cnv rfl rfl rfl rfl (cnv_i_u32 (n := y1) Try.underlying3 Try.underlying71)) ?_
    refine Tops_step rfl (OpT_build (v := .agg #[vU64 at1, vU32 (u32 y1), vB true]) rfl rfl rfl rfl (bldV (by kernel_rfl))) ?_
    refine Tops_ex rfl (OpT_buildSlice (S := SegS) (xs := [(Seg.mk at1 (u32 y1) true)]) (css := [[vU64 at1, vU32 (u32 y1), vB true]]) (cs := [vU64 at1, vU32 (u32 y1), vB true]) (e := 73) rfl rfl rfl rfl (bldF slF54 (by decide) (by kernel_rfl)) rfl rfl rfl rfl (rel_plainD (S := SegS) (xs := [(Seg.mk at1 (u32 y1) true)]) (css := [[vU64 at1, vU32 (u32 y1), vB true]]) rfl rfl)) fun v2 => ?_
    refine Tops_retire (i := 1) rfl ?_
    refine Tops_ex rfl (OpT_buildSl (Shape.slice SegS) (vs := [v2]) (xs := [[(Seg.mk at1 (u32 y1) true)]]) rfl rfl rfl rfl rfl slF52 (isl_cons (is_sl (i := 2) rfl) isl_nil) rfl rfl rfl (rel_cons (rel_sl (i := 2) rfl) (rel_nil rfl))) fun v3 => ?_
    refine Tops_retire (i := 2) rfl ?_
    obtain ⟨hc1, h⟩ := chk_e h
    refine Tops_ex rfl (OpT_append rfl rfl rfl rfl rfl slF52 (i := 0) (j := 3) rfl rfl hc1) fun v4 => ?_
    refine Tops_step rfl (OpT_assign rfl rfl rfl rfl) ?_
    refine Tops_nil ?_
    refine Tk_wkS (fr' := [(0, some (vl1)), (3, some (vU64 at1)), (4, some (v4)), (5, some (vI i1))]) (own' := [some (rowS (Shape.slice SegS) v4 (out1 ++ [[(Seg.mk at1 (u32 y1) true)]]))]) (shr' := [Fact.sl iS vl1 l]) [0, 3, 4, 5] [0] [0] rfl rfl rfl rfl ?_
    refine Tk_region ?_
    refine Tops_step rfl (OpT_move rfl rfl rfl rfl) ?_
    refine Tops_step rfl (OpT_move rfl rfl rfl rfl) ?_
    refine Tops_step rfl (OpT_move rfl rfl rfl rfl) ?_
    obtain ⟨y2, hx2, h⟩ := ob_e h
    refine Tops_ex rfl (OpT_idxS rfl rfl rfl rfl rfl slF76 (i := 0) rfl hx2) fun p2 => ?_
    refine Tops_step rfl (OpT_loadP rfl rfl rfl rfl tyF3 (i := 1) rfl rfl) ?_
    refine Tops_step rfl (OpT_cnv rfl rfl rfl rfl (cnv_i_u64 (n := y2) Try.underlying3 Try.underlying53)) ?_
    refine Tops_step rfl (OpT_bin rfl rfl rfl rfl rfl (bin_add_u64 (a := at1) (b := u64 y2))) ?_
    refine Tops_step rfl (OpT_assign rfl rfl rfl rfl) ?_
    refine Tops_nil ?_
    refine Tk_wkS (fr' := [(0, some (vl1)), (3, some (vU64 (at1 + (u64 y2)))), (4, some (v4)), (5, some (vI i1))]) (own' := [some (rowS (Shape.slice SegS) v4 (out1 ++ [[(Seg.mk at1 (u32 y1) true)]]))]) (shr' := [Fact.sl iS vl1 l]) [0, 3, 4, 5] [0] [0] rfl rfl rfl rfl ?_
    refine Tk_blk ?_
    refine Tk_region ?_
    refine Tops_step rfl (OpT_move rfl rfl rfl rfl) ?_
    refine Tops_step rfl (OpT_bin rfl rfl rfl rfl rfl (bin_add_i (a := i1) (b := (1 : Int)))) ?_
    refine Tops_step rfl (OpT_assign rfl rfl rfl rfl) ?_
    refine Tops_nil ?_
    refine Tk_wkS (fr' := [(0, some (vl1)), (3, some (vU64 (at1 + (u64 y2)))), (4, some (v4)), (5, some (vI (wi (i1 + (1 : Int)))))]) (own' := [some (rowS (Shape.slice SegS) v4 (out1 ++ [[(Seg.mk at1 (u32 y1) true)]]))]) (shr' := [Fact.sl iS vl1 l]) [0, 3, 4, 5] [0] [0] rfl rfl rfl rfl ?_
    exact Tk_backS (at1 + (u64 y2), out1 ++ [[(Seg.mk at1 (u32 y1) true)]], wi (i1 + (1 : Int)), v4) h [0, 3, 4, 5] [0] [0] rfl rfl rfl rfl rfl
  · replace h := br_f hg1 h
    refine Tk_condF (congrArg (fun b => some (Value.bool b)) hg1) ?_
    refine Tk_exit _ rfl ?_
    refine Tk_seq ?_
    refine Tk_region ?_
    refine Tops_step rfl (OpT_move rfl rfl rfl rfl) ?_
    refine Tops_step rfl (OpT_assign rfl rfl rfl rfl) ?_
    refine Tops_nil ?_
    refine Tk_wkS (fr' := [(2, some (v1))]) (own' := [some (rowS (Shape.slice SegS) v1 out1)]) (shr' := []) [2] [0] [] rfl rfl rfl rfl ?_
    obtain rfl := Option.some.inj h
    exact Tk_retV rfl rfl (resA (vs := [v1]) rfl ⟨rfl, trivial⟩) [0] [] rfl rfl rfl ⟨v1, rfl, rfl, rfl⟩

set_option maxRecDepth 100000 in
set_option maxHeartbeats 4000000 in
theorem w_law25zlives  {r : Bool} (h : law25zlives = some r) :
    Ctr Try.prog 34 #[] [] []
      (fun rv own shr => rv = vB r ∧ own = [] ∧ shr = []) := by
  unfold law25zlives at h
  refine Ctr.mk (args := []) Try.func34 rfl rfl (fun R0 w0 B => ?_)
  refine Tk_seq ?_
  refine Tk_region ?_
  refine Tops_step rfl (OpT_assign rfl rfl rfl rfl) ?_
  refine Tops_nil ?_
  refine Tk_wkS (fr' := []) (own' := []) (shr' := []) [] [] [] rfl rfl rfl rfl ?_
  refine Tk_seq ?_
  refine Tk_region ?_
  refine Tops_ex rfl (OpT_buildSlice (S := iS) (xs := [(20 : Int), (20 : Int), (20 : Int)]) (css := [[vI (20 : Int)], [vI (20 : Int)], [vI (20 : Int)]]) (cs := [vI (20 : Int), vI (20 : Int), vI (20 : Int)]) (e := 3) rfl rfl rfl rfl (bldF slF76 (by decide) (by kernel_rfl)) rfl rfl rfl rfl (rel_plainD (S := iS) (xs := [(20 : Int), (20 : Int), (20 : Int)]) (css := [[vI (20 : Int)], [vI (20 : Int)], [vI (20 : Int)]]) rfl rfl)) fun v1 => ?_
  refine Tops_retire (i := 0) rfl ?_
  obtain ⟨rooms1, hx1, h⟩ := ob_e h
  refine Tops_exP rfl (OpT_call (w_law25zrooms hx1) [] [0] rfl rfl rfl rfl rfl callee45 rfl rfl rfl rfl) ?_
  rintro _ ⟨v2, _, _, ⟨_, rfl, rfl, rfl⟩, rfl⟩
  refine Tops_step rfl (OpT_assign rfl rfl rfl rfl) ?_
  refine Tops_nil ?_
  refine Tk_wkS (fr' := [(1, some (v2))]) (own' := [some (rowS (Shape.slice SegS) v2 rooms1)]) (shr' := []) [1] [1] [] rfl rfl rfl rfl ?_
  refine Tk_seq ?_
  refine Tk_region ?_
  refine Tops_step rfl (OpT_move rfl rfl rfl rfl) ?_
  obtain ⟨needs1, hx2, h⟩ := ob_e h
  refine Tops_exP rfl (OpT_callB [0] [0] (w_net_Needs hx2) [] rfl rfl rfl rfl rfl callee36 rfl rfl rfl rfl rfl rfl (bor_cons (bor_row 0 rfl rfl) bor_nil) (by rintro _ _ _ ⟨rfl, rfl, rfl⟩; exact ⟨rfl, ri_nil⟩)) ?_
  rintro _ ⟨_, _, _, ⟨rfl, rfl, rfl⟩, rfl⟩
  refine Tops_step rfl (OpT_move rfl rfl rfl rfl) ?_
  refine Tops_step rfl (OpT_extract rfl rfl rfl rfl rfl) ?_
  refine Tops_step rfl (OpT_extract rfl rfl rfl rfl rfl) ?_
  refine Tops_step rfl (OpT_assign rfl rfl rfl rfl) ?_
  refine Tops_step rfl (OpT_assign rfl rfl rfl rfl) ?_
  refine Tops_nil ?_
  refine Tk_wkS (fr' := [(1, some (v2)), (2, some (vI needs1.1)), (3, some (vB needs1.2))]) (own' := [some (rowS (Shape.slice SegS) v2 rooms1)]) (shr' := []) [1, 2, 3] [0] [] rfl rfl rfl rfl ?_
  refine Tk_seq ?_
  refine Tk_region ?_
  refine Tops_step rfl (OpT_move rfl rfl rfl rfl) ?_
  obtain ⟨needs2, hx3, h⟩ := ob_e h
  refine Tops_exP rfl (OpT_callB [0] [0] (w_net_Needs hx3) [] rfl rfl rfl rfl rfl callee36 rfl rfl rfl rfl rfl rfl (bor_cons (bor_row 0 rfl rfl) bor_nil) (by rintro _ _ _ ⟨rfl, rfl, rfl⟩; exact ⟨rfl, ri_nil⟩)) ?_
  rintro _ ⟨_, _, _, ⟨rfl, rfl, rfl⟩, rfl⟩
  refine Tops_step rfl (OpT_move rfl rfl rfl rfl) ?_
  refine Tops_step rfl (OpT_extract rfl rfl rfl rfl rfl) ?_
  refine Tops_step rfl (OpT_extract rfl rfl rfl rfl rfl) ?_
  refine Tops_step rfl (OpT_assign rfl rfl rfl rfl) ?_
  refine Tops_step rfl (OpT_assign rfl rfl rfl rfl) ?_
  refine Tops_nil ?_
  refine Tk_wkS (fr' := [(1, some (v2)), (2, some (vI needs1.1)), (3, some (vB needs1.2)), (4, some (vI needs2.1)), (5, some (vB needs2.2))]) (own' := [some (rowS (Shape.slice SegS) v2 rooms1)]) (shr' := []) [1, 2, 3, 4, 5] [0] [] rfl rfl rfl rfl ?_
  refine Tk_seq ?_
  refine Tk_region ?_
  refine Tops_step rfl (OpT_move rfl rfl rfl rfl) ?_
  obtain ⟨needs3, hx4, h⟩ := ob_e h
  refine Tops_exP rfl (OpT_callB [0] [0] (w_net_Needs hx4) [] rfl rfl rfl rfl rfl callee36 rfl rfl rfl rfl rfl rfl (bor_cons (bor_row 0 rfl rfl) bor_nil) (by rintro _ _ _ ⟨rfl, rfl, rfl⟩; exact ⟨rfl, ri_nil⟩)) ?_
  rintro _ ⟨_, _, _, ⟨rfl, rfl, rfl⟩, rfl⟩
  refine Tops_step rfl (OpT_move rfl rfl rfl rfl) ?_
  refine Tops_step rfl (OpT_extract rfl rfl rfl rfl rfl) ?_
  refine Tops_step rfl (OpT_extract rfl rfl rfl rfl rfl) ?_
  refine Tops_step rfl (OpT_assign rfl rfl rfl rfl) ?_
  refine Tops_step rfl (OpT_assign rfl rfl rfl rfl) ?_
  refine Tops_nil ?_
  refine Tk_wkS (fr' := [(1, some (v2)), (2, some (vI needs1.1)), (3, some (vB needs1.2)), (4, some (vI needs2.1)), (5, some (vB needs2.2)), (6, some (vI needs3.1)), (7, some (vB needs3.2))]) (own' := [some (rowS (Shape.slice SegS) v2 rooms1)]) (shr' := []) [1, 2, 3, 4, 5, 6, 7] [0] [] rfl rfl rfl rfl ?_
  refine Tk_seq ?_
  refine Tk_region ?_
  refine Tops_step rfl (OpT_move rfl rfl rfl rfl) ?_
  obtain ⟨needs4, hx5, h⟩ := ob_e h
  refine Tops_exP rfl (OpT_callB [0] [0] (w_net_Needs hx5) [] rfl rfl rfl rfl rfl callee36 rfl rfl rfl rfl rfl rfl (bor_cons (bor_row 0 rfl rfl) bor_nil) (by rintro _ _ _ ⟨rfl, rfl, rfl⟩; exact ⟨rfl, ri_nil⟩)) ?_
  rintro _ ⟨_, _, _, ⟨rfl, rfl, rfl⟩, rfl⟩
  refine Tops_step rfl (OpT_move rfl rfl rfl rfl) ?_
  refine Tops_step rfl (OpT_extract rfl rfl rfl rfl rfl) ?_
  refine Tops_step rfl (OpT_extract rfl rfl rfl rfl rfl) ?_
  refine Tops_step rfl (OpT_assign rfl rfl rfl rfl) ?_
  refine Tops_step rfl (OpT_assign rfl rfl rfl rfl) ?_
  refine Tops_nil ?_
  refine Tk_wkS (fr' := [(1, some (v2)), (2, some (vI needs1.1)), (3, some (vB needs1.2)), (4, some (vI needs2.1)), (5, some (vB needs2.2)), (6, some (vI needs3.1)), (7, some (vB needs3.2)), (8, some (vI needs4.1)), (9, some (vB needs4.2))]) (own' := [some (rowS (Shape.slice SegS) v2 rooms1)]) (shr' := []) [1, 2, 3, 4, 5, 6, 7, 8, 9] [0] [] rfl rfl rfl rfl ?_
  refine Tk_seq ?_
  refine Tk_region ?_
  refine Tops_step rfl (OpT_move rfl rfl rfl rfl) ?_
  obtain ⟨needs5, hx6, h⟩ := ob_e h
  refine Tops_exP rfl (OpT_callB [0] [0] (w_net_Needs hx6) [] rfl rfl rfl rfl rfl callee36 rfl rfl rfl rfl rfl rfl (bor_cons (bor_row 0 rfl rfl) bor_nil) (by rintro _ _ _ ⟨rfl, rfl, rfl⟩; exact ⟨rfl, ri_nil⟩)) ?_
  rintro _ ⟨_, _, _, ⟨rfl, rfl, rfl⟩, rfl⟩
  refine Tops_step rfl (OpT_move rfl rfl rfl rfl) ?_
  refine Tops_step rfl (OpT_extract rfl rfl rfl rfl rfl) ?_
  refine Tops_step rfl (OpT_extract rfl rfl rfl rfl rfl) ?_
  refine Tops_step rfl (OpT_assign rfl rfl rfl rfl) ?_
  refine Tops_step rfl (OpT_assign rfl rfl rfl rfl) ?_
  refine Tops_nil ?_
  refine Tk_wkS (fr' := [(2, some (vI needs1.1)), (3, some (vB needs1.2)), (4, some (vI needs2.1)), (5, some (vB needs2.2)), (6, some (vI needs3.1)), (7, some (vB needs3.2)), (8, some (vI needs4.1)), (9, some (vB needs4.2)), (10, some (vI needs5.1)), (11, some (vB needs5.2))]) (own' := []) (shr' := []) [2, 3, 4, 5, 6, 7, 8, 9, 10, 11] [] [] rfl rfl rfl rfl ?_
  refine Tk_seq ?_
  refine Tk_region ?_
  refine Tops_step rfl (OpT_move rfl rfl rfl rfl) ?_
  refine Tops_step rfl (OpT_bin rfl rfl rfl rfl rfl (bin_eql_i (a := needs1.1) (b := (2 : Int)))) ?_
  refine Tops_step rfl (OpT_move rfl rfl rfl rfl) ?_
  rcases Bool.eq_false_or_eq_true (needs1.1 == (2 : Int)) with hg1 | hg1
  · replace h := br_t hg1 h
    refine Tops_yes rfl rfl (congrArg (fun b => some (Value.bool b)) hg1) (OpT_move rfl rfl rfl rfl) ?_
    rintro _ rfl
    refine Tops_step rfl (OpT_pickT rfl rfl rfl (congrArg (fun b => some (Value.bool b)) hg1) rfl) ?_
    refine Tops_step rfl (OpT_move rfl rfl rfl rfl) ?_
    rcases Bool.eq_false_or_eq_true (needs1.2) with hg2 | hg2
    · replace h := br_t hg2 h
      refine Tops_yes rfl rfl (congrArg (fun b => some (Value.bool b)) hg2) (OpT_move rfl rfl rfl rfl) ?_
      rintro _ rfl
      refine Tops_yes rfl rfl (congrArg (fun b => some (Value.bool b)) hg2) (OpT_bin rfl rfl rfl rfl rfl (bin_eql_i (a := needs2.1) (b := (3 : Int)))) ?_
      rintro _ rfl
      refine Tops_step rfl (OpT_pickT rfl rfl rfl (congrArg (fun b => some (Value.bool b)) hg2) rfl) ?_
      refine Tops_step rfl (OpT_move rfl rfl rfl rfl) ?_
      rcases Bool.eq_false_or_eq_true (needs2.1 == (3 : Int)) with hg3 | hg3
      · replace h := br_t hg3 h
        refine Tops_yes rfl rfl (congrArg (fun b => some (Value.bool b)) hg3) (OpT_move rfl rfl rfl rfl) ?_
        rintro _ rfl
        refine Tops_step rfl (OpT_pickT rfl rfl rfl (congrArg (fun b => some (Value.bool b)) hg3) rfl) ?_
        refine Tops_step rfl (OpT_move rfl rfl rfl rfl) ?_
        rcases Bool.eq_false_or_eq_true (needs2.2) with hg4 | hg4
        · replace h := br_t hg4 h
          refine Tops_yes rfl rfl (congrArg (fun b => some (Value.bool b)) hg4) (OpT_move rfl rfl rfl rfl) ?_
          rintro _ rfl
          refine Tops_yes rfl rfl (congrArg (fun b => some (Value.bool b)) hg4) (OpT_bin rfl rfl rfl rfl rfl (bin_eql_i (a := needs3.1) (b := (0 : Int)))) ?_
          rintro _ rfl
          refine Tops_step rfl (OpT_pickT rfl rfl rfl (congrArg (fun b => some (Value.bool b)) hg4) rfl) ?_
          refine Tops_step rfl (OpT_move rfl rfl rfl rfl) ?_
          rcases Bool.eq_false_or_eq_true (needs3.1 == (0 : Int)) with hg5 | hg5
          · replace h := br_t hg5 h
            refine Tops_yes rfl rfl (congrArg (fun b => some (Value.bool b)) hg5) (OpT_move rfl rfl rfl rfl) ?_
            rintro _ rfl
            refine Tops_yes rfl rfl (congrArg (fun b => some (Value.bool b)) hg5) (OpT_not rfl rfl rfl rfl) ?_
            rintro _ rfl
            refine Tops_step rfl (OpT_pickT rfl rfl rfl (congrArg (fun b => some (Value.bool b)) hg5) rfl) ?_
            refine Tops_step rfl (OpT_move rfl rfl rfl rfl) ?_
            rcases Bool.eq_false_or_eq_true ((!needs3.2)) with hg6 | hg6
            · replace h := br_t hg6 h
              refine Tops_yes rfl rfl (congrArg (fun b => some (Value.bool b)) hg6) (OpT_move rfl rfl rfl rfl) ?_
              rintro _ rfl
              refine Tops_yes rfl rfl (congrArg (fun b => some (Value.bool b)) hg6) (OpT_bin rfl rfl rfl rfl rfl (bin_eql_i (a := needs4.1) (b := (1 : Int)))) ?_
              rintro _ rfl
              refine Tops_step rfl (OpT_pickT rfl rfl rfl (congrArg (fun b => some (Value.bool b)) hg6) rfl) ?_
              refine Tops_step rfl (OpT_move rfl rfl rfl rfl) ?_
              rcases Bool.eq_false_or_eq_true (needs4.1 == (1 : Int)) with hg7 | hg7
              · replace h := br_t hg7 h
                refine Tops_yes rfl rfl (congrArg (fun b => some (Value.bool b)) hg7) (OpT_move rfl rfl rfl rfl) ?_
                rintro _ rfl
                refine Tops_step rfl (OpT_pickT rfl rfl rfl (congrArg (fun b => some (Value.bool b)) hg7) rfl) ?_
                refine Tops_step rfl (OpT_move rfl rfl rfl rfl) ?_
                rcases Bool.eq_false_or_eq_true (needs4.2) with hg8 | hg8
                · replace h := br_t hg8 h
                  refine Tops_yes rfl rfl (congrArg (fun b => some (Value.bool b)) hg8) (OpT_move rfl rfl rfl rfl) ?_
                  rintro _ rfl
                  refine Tops_yes rfl rfl (congrArg (fun b => some (Value.bool b)) hg8) (OpT_bin rfl rfl rfl rfl rfl (bin_eql_i (a := needs5.1) (b := (0 : Int)))) ?_
                  rintro _ rfl
                  refine Tops_step rfl (OpT_pickT rfl rfl rfl (congrArg (fun b => some (Value.bool b)) hg8) rfl) ?_
                  refine Tops_step rfl (OpT_move rfl rfl rfl rfl) ?_
                  rcases Bool.eq_false_or_eq_true (needs5.1 == (0 : Int)) with hg9 | hg9
                  · replace h := br_t hg9 h
                    refine Tops_yes rfl rfl (congrArg (fun b => some (Value.bool b)) hg9) (OpT_move rfl rfl rfl rfl) ?_
                    rintro _ rfl
                    refine Tops_yes rfl rfl (congrArg (fun b => some (Value.bool b)) hg9) (OpT_not rfl rfl rfl rfl) ?_
                    rintro _ rfl
                    refine Tops_step rfl (OpT_pickT rfl rfl rfl (congrArg (fun b => some (Value.bool b)) hg9) rfl) ?_
                    refine Tops_step rfl (OpT_assign rfl rfl rfl rfl) ?_
                    refine Tops_nil ?_
                    refine Tk_wkS (fr' := [(0, some (vB (!needs5.2)))]) (own' := []) (shr' := []) [0] [] [] rfl rfl rfl rfl ?_
                    obtain rfl := Option.some.inj h
                    exact Tk_retV rfl rfl (resA (vs := [vB (!needs5.2)]) rfl ⟨rfl, trivial⟩) [] [] rfl rfl rfl ⟨rfl, rfl, rfl⟩
                  · replace h := br_f hg9 h
                    refine Tops_no rfl rfl (congrArg (fun b => some (Value.bool b)) hg9) rfl rfl ?_
                    refine Tops_no rfl rfl (congrArg (fun b => some (Value.bool b)) hg9) rfl rfl ?_
                    refine Tops_step rfl (OpT_pickF rfl rfl rfl (congrArg (fun b => some (Value.bool b)) hg9) rfl) ?_
                    refine Tops_step rfl (OpT_assign rfl rfl rfl rfl) ?_
                    refine Tops_nil ?_
                    refine Tk_wkS (fr' := [(0, some (vB false))]) (own' := []) (shr' := []) [0] [] [] rfl rfl rfl rfl ?_
                    obtain rfl := Option.some.inj h
                    exact Tk_retV rfl rfl (resA (vs := [vB false]) rfl ⟨rfl, trivial⟩) [] [] rfl rfl rfl ⟨rfl, rfl, rfl⟩
                · replace h := br_f hg8 h
                  refine Tops_no rfl rfl (congrArg (fun b => some (Value.bool b)) hg8) rfl rfl ?_
                  refine Tops_no rfl rfl (congrArg (fun b => some (Value.bool b)) hg8) rfl rfl ?_
                  refine Tops_step rfl (OpT_pickF rfl rfl rfl (congrArg (fun b => some (Value.bool b)) hg8) rfl) ?_
                  refine Tops_step rfl (OpT_move rfl rfl rfl rfl) ?_
                  refine Tops_no rfl rfl rfl rfl rfl ?_
                  refine Tops_no rfl rfl rfl rfl rfl ?_
                  refine Tops_step rfl (OpT_pickF rfl rfl rfl rfl rfl) ?_
                  refine Tops_step rfl (OpT_assign rfl rfl rfl rfl) ?_
                  refine Tops_nil ?_
                  refine Tk_wkS (fr' := [(0, some (vB false))]) (own' := []) (shr' := []) [0] [] [] rfl rfl rfl rfl ?_
                  obtain rfl := Option.some.inj h
                  exact Tk_retV rfl rfl (resA (vs := [vB false]) rfl ⟨rfl, trivial⟩) [] [] rfl rfl rfl ⟨rfl, rfl, rfl⟩
              · replace h := br_f hg7 h
                refine Tops_no rfl rfl (congrArg (fun b => some (Value.bool b)) hg7) rfl rfl ?_
                refine Tops_step rfl (OpT_pickF rfl rfl rfl (congrArg (fun b => some (Value.bool b)) hg7) rfl) ?_
                refine Tops_step rfl (OpT_move rfl rfl rfl rfl) ?_
                refine Tops_no rfl rfl rfl rfl rfl ?_
                refine Tops_no rfl rfl rfl rfl rfl ?_
                refine Tops_step rfl (OpT_pickF rfl rfl rfl rfl rfl) ?_
                refine Tops_step rfl (OpT_move rfl rfl rfl rfl) ?_
                refine Tops_no rfl rfl rfl rfl rfl ?_
                refine Tops_no rfl rfl rfl rfl rfl ?_
                refine Tops_step rfl (OpT_pickF rfl rfl rfl rfl rfl) ?_
                refine Tops_step rfl (OpT_assign rfl rfl rfl rfl) ?_
                refine Tops_nil ?_
                refine Tk_wkS (fr' := [(0, some (vB false))]) (own' := []) (shr' := []) [0] [] [] rfl rfl rfl rfl ?_
                obtain rfl := Option.some.inj h
                exact Tk_retV rfl rfl (resA (vs := [vB false]) rfl ⟨rfl, trivial⟩) [] [] rfl rfl rfl ⟨rfl, rfl, rfl⟩
            · replace h := br_f hg6 h
              refine Tops_no rfl rfl (congrArg (fun b => some (Value.bool b)) hg6) rfl rfl ?_
              refine Tops_no rfl rfl (congrArg (fun b => some (Value.bool b)) hg6) rfl rfl ?_
              refine Tops_step rfl (OpT_pickF rfl rfl rfl (congrArg (fun b => some (Value.bool b)) hg6) rfl) ?_
              refine Tops_step rfl (OpT_move rfl rfl rfl rfl) ?_
              refine Tops_no rfl rfl rfl rfl rfl ?_
              refine Tops_step rfl (OpT_pickF rfl rfl rfl rfl rfl) ?_
              refine Tops_step rfl (OpT_move rfl rfl rfl rfl) ?_
              refine Tops_no rfl rfl rfl rfl rfl ?_
              refine Tops_no rfl rfl rfl rfl rfl ?_
              refine Tops_step rfl (OpT_pickF rfl rfl rfl rfl rfl) ?_
              refine Tops_step rfl (OpT_move rfl rfl rfl rfl) ?_
              refine Tops_no rfl rfl rfl rfl rfl ?_
              refine Tops_no rfl rfl rfl rfl rfl ?_
              refine Tops_step rfl (OpT_pickF rfl rfl rfl rfl rfl) ?_
              refine Tops_step rfl (OpT_assign rfl rfl rfl rfl) ?_
              refine Tops_nil ?_
              refine Tk_wkS (fr' := [(0, some (vB false))]) (own' := []) (shr' := []) [0] [] [] rfl rfl rfl rfl ?_
              obtain rfl := Option.some.inj h
              exact Tk_retV rfl rfl (resA (vs := [vB false]) rfl ⟨rfl, trivial⟩) [] [] rfl rfl rfl ⟨rfl, rfl, rfl⟩
          · replace h := br_f hg5 h
            refine Tops_no rfl rfl (congrArg (fun b => some (Value.bool b)) hg5) rfl rfl ?_
            refine Tops_no rfl rfl (congrArg (fun b => some (Value.bool b)) hg5) rfl rfl ?_
            refine Tops_step rfl (OpT_pickF rfl rfl rfl (congrArg (fun b => some (Value.bool b)) hg5) rfl) ?_
            refine Tops_step rfl (OpT_move rfl rfl rfl rfl) ?_
            refine Tops_no rfl rfl rfl rfl rfl ?_
            refine Tops_no rfl rfl rfl rfl rfl ?_
            refine Tops_step rfl (OpT_pickF rfl rfl rfl rfl rfl) ?_
            refine Tops_step rfl (OpT_move rfl rfl rfl rfl) ?_
            refine Tops_no rfl rfl rfl rfl rfl ?_
            refine Tops_step rfl (OpT_pickF rfl rfl rfl rfl rfl) ?_
            refine Tops_step rfl (OpT_move rfl rfl rfl rfl) ?_
            refine Tops_no rfl rfl rfl rfl rfl ?_
            refine Tops_no rfl rfl rfl rfl rfl ?_
            refine Tops_step rfl (OpT_pickF rfl rfl rfl rfl rfl) ?_
            refine Tops_step rfl (OpT_move rfl rfl rfl rfl) ?_
            refine Tops_no rfl rfl rfl rfl rfl ?_
            refine Tops_no rfl rfl rfl rfl rfl ?_
            refine Tops_step rfl (OpT_pickF rfl rfl rfl rfl rfl) ?_
            refine Tops_step rfl (OpT_assign rfl rfl rfl rfl) ?_
            refine Tops_nil ?_
            refine Tk_wkS (fr' := [(0, some (vB false))]) (own' := []) (shr' := []) [0] [] [] rfl rfl rfl rfl ?_
            obtain rfl := Option.some.inj h
            exact Tk_retV rfl rfl (resA (vs := [vB false]) rfl ⟨rfl, trivial⟩) [] [] rfl rfl rfl ⟨rfl, rfl, rfl⟩
        · replace h := br_f hg4 h
          refine Tops_no rfl rfl (congrArg (fun b => some (Value.bool b)) hg4) rfl rfl ?_
          refine Tops_no rfl rfl (congrArg (fun b => some (Value.bool b)) hg4) rfl rfl ?_
          refine Tops_step rfl (OpT_pickF rfl rfl rfl (congrArg (fun b => some (Value.bool b)) hg4) rfl) ?_
          refine Tops_step rfl (OpT_move rfl rfl rfl rfl) ?_
          refine Tops_no rfl rfl rfl rfl rfl ?_
          refine Tops_no rfl rfl rfl rfl rfl ?_
          refine Tops_step rfl (OpT_pickF rfl rfl rfl rfl rfl) ?_
          refine Tops_step rfl (OpT_move rfl rfl rfl rfl) ?_
          refine Tops_no rfl rfl rfl rfl rfl ?_
          refine Tops_no rfl rfl rfl rfl rfl ?_
          refine Tops_step rfl (OpT_pickF rfl rfl rfl rfl rfl) ?_
          refine Tops_step rfl (OpT_move rfl rfl rfl rfl) ?_
          refine Tops_no rfl rfl rfl rfl rfl ?_
          refine Tops_step rfl (OpT_pickF rfl rfl rfl rfl rfl) ?_
          refine Tops_step rfl (OpT_move rfl rfl rfl rfl) ?_
          refine Tops_no rfl rfl rfl rfl rfl ?_
          refine Tops_no rfl rfl rfl rfl rfl ?_
          refine Tops_step rfl (OpT_pickF rfl rfl rfl rfl rfl) ?_
          refine Tops_step rfl (OpT_move rfl rfl rfl rfl) ?_
          refine Tops_no rfl rfl rfl rfl rfl ?_
          refine Tops_no rfl rfl rfl rfl rfl ?_
          refine Tops_step rfl (OpT_pickF rfl rfl rfl rfl rfl) ?_
          refine Tops_step rfl (OpT_assign rfl rfl rfl rfl) ?_
          refine Tops_nil ?_
          refine Tk_wkS (fr' := [(0, some (vB false))]) (own' := []) (shr' := []) [0] [] [] rfl rfl rfl rfl ?_
          obtain rfl := Option.some.inj h
          exact Tk_retV rfl rfl (resA (vs := [vB false]) rfl ⟨rfl, trivial⟩) [] [] rfl rfl rfl ⟨rfl, rfl, rfl⟩
      · replace h := br_f hg3 h
        refine Tops_no rfl rfl (congrArg (fun b => some (Value.bool b)) hg3) rfl rfl ?_
        refine Tops_step rfl (OpT_pickF rfl rfl rfl (congrArg (fun b => some (Value.bool b)) hg3) rfl) ?_
        refine Tops_step rfl (OpT_move rfl rfl rfl rfl) ?_
        refine Tops_no rfl rfl rfl rfl rfl ?_
        refine Tops_no rfl rfl rfl rfl rfl ?_
        refine Tops_step rfl (OpT_pickF rfl rfl rfl rfl rfl) ?_
        refine Tops_step rfl (OpT_move rfl rfl rfl rfl) ?_
        refine Tops_no rfl rfl rfl rfl rfl ?_
        refine Tops_no rfl rfl rfl rfl rfl ?_
        refine Tops_step rfl (OpT_pickF rfl rfl rfl rfl rfl) ?_
        refine Tops_step rfl (OpT_move rfl rfl rfl rfl) ?_
        refine Tops_no rfl rfl rfl rfl rfl ?_
        refine Tops_no rfl rfl rfl rfl rfl ?_
        refine Tops_step rfl (OpT_pickF rfl rfl rfl rfl rfl) ?_
        refine Tops_step rfl (OpT_move rfl rfl rfl rfl) ?_
        refine Tops_no rfl rfl rfl rfl rfl ?_
        refine Tops_step rfl (OpT_pickF rfl rfl rfl rfl rfl) ?_
        refine Tops_step rfl (OpT_move rfl rfl rfl rfl) ?_
        refine Tops_no rfl rfl rfl rfl rfl ?_
        refine Tops_no rfl rfl rfl rfl rfl ?_
        refine Tops_step rfl (OpT_pickF rfl rfl rfl rfl rfl) ?_
        refine Tops_step rfl (OpT_move rfl rfl rfl rfl) ?_
        refine Tops_no rfl rfl rfl rfl rfl ?_
        refine Tops_no rfl rfl rfl rfl rfl ?_
        refine Tops_step rfl (OpT_pickF rfl rfl rfl rfl rfl) ?_
        refine Tops_step rfl (OpT_assign rfl rfl rfl rfl) ?_
        refine Tops_nil ?_
        refine Tk_wkS (fr' := [(0, some (vB false))]) (own' := []) (shr' := []) [0] [] [] rfl rfl rfl rfl ?_
        obtain rfl := Option.some.inj h
        exact Tk_retV rfl rfl (resA (vs := [vB false]) rfl ⟨rfl, trivial⟩) [] [] rfl rfl rfl ⟨rfl, rfl, rfl⟩
    · replace h := br_f hg2 h
      refine Tops_no rfl rfl (congrArg (fun b => some (Value.bool b)) hg2) rfl rfl ?_
      refine Tops_no rfl rfl (congrArg (fun b => some (Value.bool b)) hg2) rfl rfl ?_
      refine Tops_step rfl (OpT_pickF rfl rfl rfl (congrArg (fun b => some (Value.bool b)) hg2) rfl) ?_
      refine Tops_step rfl (OpT_move rfl rfl rfl rfl) ?_
      refine Tops_no rfl rfl rfl rfl rfl ?_
      refine Tops_step rfl (OpT_pickF rfl rfl rfl rfl rfl) ?_
      refine Tops_step rfl (OpT_move rfl rfl rfl rfl) ?_
      refine Tops_no rfl rfl rfl rfl rfl ?_
      refine Tops_no rfl rfl rfl rfl rfl ?_
      refine Tops_step rfl (OpT_pickF rfl rfl rfl rfl rfl) ?_
      refine Tops_step rfl (OpT_move rfl rfl rfl rfl) ?_
      refine Tops_no rfl rfl rfl rfl rfl ?_
      refine Tops_no rfl rfl rfl rfl rfl ?_
      refine Tops_step rfl (OpT_pickF rfl rfl rfl rfl rfl) ?_
      refine Tops_step rfl (OpT_move rfl rfl rfl rfl) ?_
      refine Tops_no rfl rfl rfl rfl rfl ?_
      refine Tops_no rfl rfl rfl rfl rfl ?_
      refine Tops_step rfl (OpT_pickF rfl rfl rfl rfl rfl) ?_
      refine Tops_step rfl (OpT_move rfl rfl rfl rfl) ?_
      refine Tops_no rfl rfl rfl rfl rfl ?_
      refine Tops_step rfl (OpT_pickF rfl rfl rfl rfl rfl) ?_
      refine Tops_step rfl (OpT_move rfl rfl rfl rfl) ?_
      refine Tops_no rfl rfl rfl rfl rfl ?_
      refine Tops_no rfl rfl rfl rfl rfl ?_
      refine Tops_step rfl (OpT_pickF rfl rfl rfl rfl rfl) ?_
      refine Tops_step rfl (OpT_move rfl rfl rfl rfl) ?_
      refine Tops_no rfl rfl rfl rfl rfl ?_
      refine Tops_no rfl rfl rfl rfl rfl ?_
      refine Tops_step rfl (OpT_pickF rfl rfl rfl rfl rfl) ?_
      refine Tops_step rfl (OpT_assign rfl rfl rfl rfl) ?_
      refine Tops_nil ?_
      refine Tk_wkS (fr' := [(0, some (vB false))]) (own' := []) (shr' := []) [0] [] [] rfl rfl rfl rfl ?_
      obtain rfl := Option.some.inj h
      exact Tk_retV rfl rfl (resA (vs := [vB false]) rfl ⟨rfl, trivial⟩) [] [] rfl rfl rfl ⟨rfl, rfl, rfl⟩
  · replace h := br_f hg1 h
    refine Tops_no rfl rfl (congrArg (fun b => some (Value.bool b)) hg1) rfl rfl ?_
    refine Tops_step rfl (OpT_pickF rfl rfl rfl (congrArg (fun b => some (Value.bool b)) hg1) rfl) ?_
    refine Tops_step rfl (OpT_move rfl rfl rfl rfl) ?_
    refine Tops_no rfl rfl rfl rfl rfl ?_
    refine Tops_no rfl rfl rfl rfl rfl ?_
    refine Tops_step rfl (OpT_pickF rfl rfl rfl rfl rfl) ?_
    refine Tops_step rfl (OpT_move rfl rfl rfl rfl) ?_
    refine Tops_no rfl rfl rfl rfl rfl ?_
    refine Tops_step rfl (OpT_pickF rfl rfl rfl rfl rfl) ?_
    refine Tops_step rfl (OpT_move rfl rfl rfl rfl) ?_
    refine Tops_no rfl rfl rfl rfl rfl ?_
    refine Tops_no rfl rfl rfl rfl rfl ?_
    refine Tops_step rfl (OpT_pickF rfl rfl rfl rfl rfl) ?_
    refine Tops_step rfl (OpT_move rfl rfl rfl rfl) ?_
    refine Tops_no rfl rfl rfl rfl rfl ?_
    refine Tops_no rfl rfl rfl rfl rfl ?_
    refine Tops_step rfl (OpT_pickF rfl rfl rfl rfl rfl) ?_
    refine Tops_step rfl (OpT_move rfl rfl rfl rfl) ?_
    refine Tops_no rfl rfl rfl rfl rfl ?_
    refine Tops_no rfl rfl rfl rfl rfl ?_
    refine Tops_step rfl (OpT_pickF rfl rfl rfl rfl rfl) ?_
    refine Tops_step rfl (OpT_move rfl rfl rfl rfl) ?_
    refine Tops_no rfl rfl rfl rfl rfl ?_
    refine Tops_step rfl (OpT_pickF rfl rfl rfl rfl rfl) ?_
    refine Tops_step rfl (OpT_move rfl rfl rfl rfl) ?_
    refine Tops_no rfl rfl rfl rfl rfl ?_
    refine Tops_no rfl rfl rfl rfl rfl ?_
    refine Tops_step rfl (OpT_pickF rfl rfl rfl rfl rfl) ?_
    refine Tops_step rfl (OpT_move rfl rfl rfl rfl) ?_
    refine Tops_no rfl rfl rfl rfl rfl ?_
    refine Tops_no rfl rfl rfl rfl rfl ?_
    refine Tops_step rfl (OpT_pickF rfl rfl rfl rfl rfl) ?_
    refine Tops_step rfl (OpT_assign rfl rfl rfl rfl) ?_
    refine Tops_nil ?_
    refine Tk_wkS (fr' := [(0, some (vB false))]) (own' := []) (shr' := []) [0] [] [] rfl rfl rfl rfl ?_
    obtain rfl := Option.some.inj h
    exact Tk_retV rfl rfl (resA (vs := [vB false]) rfl ⟨rfl, trivial⟩) [] [] rfl rfl rfl ⟨rfl, rfl, rfl⟩
end Go.Proofs.Ytgpggnhifkkfbaa
