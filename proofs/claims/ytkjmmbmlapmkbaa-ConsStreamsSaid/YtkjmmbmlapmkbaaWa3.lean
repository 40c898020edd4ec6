/- The functions do what the plain words say: each is walked once. No statement of the seat is proved here; no condition. -/
import Derived.Test.YtkjmmbmlapmkbaaWa2
namespace Go.Proofs.Ytkjmmbmlapmkbaa

set_option maxRecDepth 100000 in
set_option maxHeartbeats 4000000 in
theorem w_slices_Grow_bytebyten0 {np1 : Int} {r : (List UInt8)} (h : slices_Grow_bytebyten0 np1 = some r) :
  Ctr Try.prog 46 #[.slice none 0 0, vI np1] [] []
   (fun rv own shr => ∃ (w1 : Value), rv = w1 ∧ own = [(rowS u8S w1 r)] ∧ shr = []) := by
 unfold slices_Grow_bytebyten0 at h
 refine Ctr.mk (args := [.slice none 0 0, vI np1]) Try.func46 rfl rfl (fun R0 w0 B => ?_)
 refine Tk_seq (Tk_region (Tops_step rfl (OpT_assign rfl rfl rfl rfl) ?_))
 refine Tops_nil (Tk_wkS (fr' := [(0, some (.slice none 0 0)), (1, some (vI np1))]) (own' := []) (shr' := []) [0, 1] [] [] rfl rfl rfl rfl ?_)
 refine Tk_seq (Tk_seq (Tk_region (Tops_step rfl (OpT_move rfl rfl rfl rfl) ?_)))
 refine Tops_step rfl (OpT_bin rfl rfl rfl rfl rfl (bin_lss_i (a := np1) (b := (0 : Int)))) ?_
 refine Tops_nil (Tk_wkS (fr' := [(0, some (.slice none 0 0)), (1, some (vI np1)), (6, some (vB (decide (np1 < (0 : Int)))))]) (own' := []) (shr' := []) [0, 1, 6] [] [] rfl rfl rfl rfl ?_)
 refine Tk_join (α := Unit) (fun s => ⟨[(0, some (.slice none 0 0)), (1, some (vI np1))], [], []⟩) (fun s => slices_Grow_bytebyten0J1 np1 = some r) ?_ ?_
 ·rintro _ h
  replace h : slices_Grow_bytebyten0J1 np1 = some r := h
  unfold slices_Grow_bytebyten0J1 at h
  refine Tk_seq (Tk_seq (Tk_region (Tops_step rfl (OpT_move rfl rfl rfl rfl) ?_)))
  refine Tops_step rfl (OpT_move rfl rfl rfl rfl) ?_
  refine Tops_step rfl (OpT_capN rfl rfl rfl rfl Try.underlying30) ?_
  refine Tops_step rfl (OpT_move rfl rfl rfl rfl) ?_
  refine Tops_step rfl (OpT_lenE rfl rfl rfl rfl Try.underlying30) ?_
  refine Tops_step rfl (OpT_bin rfl rfl rfl rfl rfl (bin_sub_i (a := (0 : Int)) (b := (0 : Int)))) ?_
  refine Tops_step rfl (OpT_bin rfl rfl rfl rfl rfl (bin_sub_i (a := np1) (b := wi ((0 : Int) - (0 : Int))))) ?_
  refine Tops_step rfl (OpT_assign rfl rfl rfl rfl) ?_
  refine Tops_nil (Tk_wkS (fr' := [(0, some (.slice none 0 0)), (1, some (vI (wi (np1 - (wi ((0 : Int) - (0 : Int)))))))]) (own' := []) (shr' := []) [0, 1] [] [] rfl rfl rfl rfl ?_)
  refine Tk_seq (Tk_region (Tops_step rfl (OpT_move rfl rfl rfl rfl) ?_))
  refine Tops_step rfl (OpT_bin rfl rfl rfl rfl rfl (bin_gtr_i (a := wi (np1 - (wi ((0 : Int) - (0 : Int))))) (b := (0 : Int)))) ?_
  refine Tops_nil (Tk_wkS (fr' := [(0, some (.slice none 0 0)), (1, some (vI (wi (np1 - (wi ((0 : Int) - (0 : Int))))))), (16, some (vB (decide ((wi (np1 - (wi ((0 : Int) - (0 : Int))))) > (0 : Int)))))]) (own' := []) (shr' := []) [0, 1, 16] [] [] rfl rfl rfl rfl ?_)
  rcases Bool.eq_false_or_eq_true (decide ((wi (np1 - (wi ((0 : Int) - (0 : Int))))) > (0 : Int))) with hg1 | hg1
  ·replace h := br_t hg1 h
   refine Tk_condT (congrArg (fun b => some (Value.bool b)) hg1) ?_
   refine Tk_region (Tops_step rfl (OpT_move rfl rfl rfl rfl) ?_)
   refine Tops_step rfl (OpT_move rfl rfl rfl rfl) ?_
   refine Tops_step rfl (OpT_capN rfl rfl rfl rfl Try.underlying30) ?_
   refine Tops_step rfl (OpT_sliceN rfl rfl rfl rfl rfl Try.underlying30 ⟨_, (slF30).sz⟩) ?_
   refine Tops_step rfl (OpT_move rfl rfl rfl rfl) ?_
   obtain ⟨hc1, h⟩ := chk_e h
   refine Tops_ex rfl (OpT_appendZ u8S rfl (l := wi (np1 - (wi ((0 : Int) - (0 : Int))))) (u := (0 : UInt8)) rfl rfl rfl rfl rfl slF30 Try.underlying3 rfl hc1) fun v1 => ?_
   refine Tops_step rfl (OpT_move rfl rfl rfl rfl) ?_
   refine Tops_step rfl (OpT_lenE rfl rfl rfl rfl Try.underlying30) ?_
   obtain ⟨hc2, h⟩ := chk_e h
   refine Tops_ex rfl (OpT_sliceO (m := (0 : Int)) rfl rfl rfl rfl rfl slF30 (i := 0) rfl hc2) fun v2 => ?_
   refine Tops_step rfl (OpT_assign rfl rfl rfl rfl) ?_
   refine Tops_nil (Tk_wkS (fr' := [(0, some (v2))]) (own' := [some (rowS u8S v2 ((List.replicate (wi (np1 - (wi ((0 : Int) - (0 : Int))))).toNat (0 : UInt8)).take (0 : Int).toNat))]) (shr' := []) [0] [0] [] rfl rfl rfl rfl ?_)
   refine Tk_seq (Tk_region (Tops_step rfl (OpT_move rfl rfl rfl rfl) ?_))
   refine Tops_step rfl (OpT_assign rfl rfl rfl rfl) ?_
   refine Tops_nil (Tk_wkS (fr' := [(4, some (v2))]) (own' := [some (rowS u8S v2 ((List.replicate (wi (np1 - (wi ((0 : Int) - (0 : Int))))).toNat (0 : UInt8)).take (0 : Int).toNat))]) (shr' := []) [4] [0] [] rfl rfl rfl rfl ?_)
   obtain rfl := Option.some.inj h
   exact Tk_retV rfl rfl (resA (vs := [v2]) rfl ⟨rfl, trivial⟩) [0] [] rfl rfl rfl ⟨v2, rfl, rfl, rfl⟩
  ·replace h := br_f hg1 h
   refine Tk_condF (congrArg (fun b => some (Value.bool b)) hg1) ?_
   refine Tk_skip (Tk_seq (Tk_region (Tops_step rfl (OpT_move rfl rfl rfl rfl) ?_)))
   refine Tops_step rfl (OpT_assign rfl rfl rfl rfl) ?_
   refine Tops_nil (Tk_wkS (fr' := [(4, some (.slice none 0 0))]) (own' := []) (shr' := []) [4] [] [] rfl rfl rfl rfl ?_)
   refine Tk_nilrow u8S ?_
   obtain rfl := Option.some.inj h
   exact Tk_retV rfl rfl (resA (vs := [.slice none 0 0]) rfl ⟨rfl, trivial⟩) [0] [] rfl rfl rfl ⟨(.slice none 0 0), rfl, rfl, rfl⟩
 ·intro HJ1
  obtain ⟨hg2, h⟩ := chk_e h
  replace hg2 := not_t hg2
  refine Tk_condF (congrArg (fun b => some (Value.bool b)) hg2) ?_
  refine Tk_skip ?_
  exact Tk_jmpS (HJ1 () h) [0, 1] [] [] rfl rfl rfl rfl

set_option maxRecDepth 100000 in
set_option maxHeartbeats 4000000 in
theorem w_slices_Concat_bytebyte {slices : List (List UInt8)} {vslices1 : Value} {r : (List UInt8)} (h : slices_Concat_bytebyte slices = some r) :
  Ctr Try.prog 35 #[vslices1] [] [Fact.sl (Shape.slice u8S) vslices1 slices]
   (fun rv own shr => ∃ (w1 : Value), rv = w1 ∧ own = [(rowS u8S w1 r)] ∧ shr = []) := by
 unfold slices_Concat_bytebyte at h
 refine Ctr.mk (args := [vslices1]) Try.func35 rfl rfl (fun R0 w0 B => ?_)
 refine Tk_seq (Tk_region (Tops_step rfl (OpT_assign rfl rfl rfl rfl) ?_))
 refine Tops_nil (Tk_wkS (fr' := [(0, some (vslices1))]) (own' := []) (shr' := [Fact.sl (Shape.slice u8S) vslices1 slices]) [0] [] [0] rfl rfl rfl rfl ?_)
 refine Tk_seq (Tk_region (Tops_step rfl (OpT_assign rfl rfl rfl rfl) ?_))
 refine Tops_nil (Tk_seq (Tk_seq (Tk_region (Tops_step rfl (OpT_move rfl rfl rfl rfl) ?_))))
 refine Tops_step rfl (OpT_lenS rfl rfl rfl rfl Try.underlying55 (i := 0) rfl) ?_
 refine Tops_step rfl (OpT_move rfl rfl rfl rfl) ?_
 refine Tops_nil (Tk_block (Tk_loopS (σ := Int × Int) [0, 3, 9, 10, 11] [] [0] (fun s => ⟨[(0, some (vslices1)), (3, some (vI s.1)), (9, some (vslices1)), (10, some (vI (len slices))), (11, some (vI s.2))], [], [Fact.sl (Shape.slice u8S) vslices1 slices]⟩) (fun nf1 s => slices_Concat_bytebyteL1 slices nf1 s.1 s.2 = some r) fuel ((0 : Int), (0 : Int)) h rfl rfl rfl rfl rfl (fun s h => by cases h) ?_))
 rintro nf1 ⟨size1, x1⟩ h
 replace h : slices_Concat_bytebyteL1B slices (slices_Concat_bytebyteL1 slices nf1) size1 x1 = some r := h
 unfold slices_Concat_bytebyteL1B at h
 refine Tk_seq (Tk_region (Tops_step rfl (OpT_bin rfl rfl rfl rfl rfl (bin_lss_i (a := x1) (b := len slices))) ?_))
 refine Tops_nil (Tk_seq ?_)
 rcases Bool.eq_false_or_eq_true (decide (x1 < (len slices))) with hg1 | hg1
 ·replace h := br_t hg1 h
  refine Tk_condT (congrArg (fun b => some (Value.bool b)) hg1) ?_
  refine Tk_skip (Tk_seq (Tk_join (α := Int) (fun s => ⟨[(0, some (vslices1)), (3, some (vI s)), (9, some (vslices1)), (10, some (vI (len slices))), (11, some (vI x1))], [], [Fact.sl (Shape.slice u8S) vslices1 slices]⟩) (fun s => slices_Concat_bytebyteJ2 x1 (slices_Concat_bytebyteL1 slices nf1) s = some r) ?_ ?_))
  ·rintro size2 h
   replace h : slices_Concat_bytebyteJ2 x1 (slices_Concat_bytebyteL1 slices nf1) size2 = some r := h
   unfold slices_Concat_bytebyteJ2 at h
   refine Tk_region (Tops_step rfl (OpT_bin rfl rfl rfl rfl rfl (bin_add_i (a := x1) (b := (1 : Int)))) ?_)
   refine Tops_step rfl (OpT_move rfl rfl rfl rfl) ?_
   refine Tops_nil (Tk_wkS (fr' := [(0, some (vslices1)), (3, some (vI size2)), (9, some (vslices1)), (10, some (vI (len slices))), (11, some (vI (wi (x1 + (1 : Int)))))]) (own' := []) (shr' := [Fact.sl (Shape.slice u8S) vslices1 slices]) [0, 3, 9, 10, 11] [] [0] rfl rfl rfl rfl ?_)
   exact Tk_backS (size2, wi (x1 + (1 : Int))) h [0, 3, 9, 10, 11] [] [0] rfl rfl rfl rfl rfl
  ·intro HJ1
   refine Tk_block (Tk_seq (Tk_region ?_))
   obtain ⟨y1, hx1, h⟩ := ob_e h
   refine Tops_ex rfl (OpT_idxS rfl rfl rfl rfl rfl slF55 (i := 0) rfl hx1) fun p1 => ?_
   refine Tops_ex rfl (OpT_loadPS rfl rfl rfl rfl tyF30 (i := 1) rfl) fun v1 => ?_
   refine Tops_step rfl (OpT_assign rfl rfl rfl rfl) ?_
   refine Tops_nil (Tk_wkS (fr' := [(0, some (vslices1)), (3, some (vI size1)), (9, some (vslices1)), (10, some (vI (len slices))), (11, some (vI x1)), (5, some (v1))]) (own' := []) (shr' := [Fact.sl (Shape.slice u8S) vslices1 slices, Fact.sl u8S v1 y1]) [0, 3, 9, 10, 11, 5] [] [0, 2] rfl rfl rfl rfl ?_)
   refine Tk_seq (Tk_region (Tops_step rfl (OpT_move rfl rfl rfl rfl) ?_))
   refine Tops_step rfl (OpT_move rfl rfl rfl rfl) ?_
   refine Tops_step rfl (OpT_lenS rfl rfl rfl rfl Try.underlying30 (i := 1) rfl) ?_
   refine Tops_step rfl (OpT_bin rfl rfl rfl rfl rfl (bin_add_i (a := size1) (b := len y1))) ?_
   refine Tops_step rfl (OpT_assign rfl rfl rfl rfl) ?_
   refine Tops_nil (Tk_wkS (fr' := [(0, some (vslices1)), (3, some (vI (wi (size1 + (len y1))))), (9, some (vslices1)), (10, some (vI (len slices))), (11, some (vI x1))]) (own' := []) (shr' := [Fact.sl (Shape.slice u8S) vslices1 slices]) [0, 3, 9, 10, 11] [] [0] rfl rfl rfl rfl ?_)
   refine Tk_seq (Tk_region (Tops_step rfl (OpT_move rfl rfl rfl rfl) ?_))
   refine Tops_step rfl (OpT_bin rfl rfl rfl rfl rfl (bin_lss_i (a := wi (size1 + (len y1))) (b := (0 : Int)))) ?_
   refine Tops_nil (Tk_wkS (fr' := [(0, some (vslices1)), (3, some (vI (wi (size1 + (len y1))))), (9, some (vslices1)), (10, some (vI (len slices))), (11, some (vI x1)), (20, some (vB (decide ((wi (size1 + (len y1))) < (0 : Int)))))]) (own' := []) (shr' := [Fact.sl (Shape.slice u8S) vslices1 slices]) [0, 3, 9, 10, 11, 20] [] [0] rfl rfl rfl rfl ?_)
   refine Tk_join (α := Unit) (fun s => ⟨[(0, some (vslices1)), (3, some (vI (wi (size1 + (len y1))))), (9, some (vslices1)), (10, some (vI (len slices))), (11, some (vI x1))], [], [Fact.sl (Shape.slice u8S) vslices1 slices]⟩) (fun s => slices_Concat_bytebyteJ3 size1 x1 (slices_Concat_bytebyteL1 slices nf1) y1 = some r) ?_ ?_
   ·rintro _ h
    replace h : slices_Concat_bytebyteJ3 size1 x1 (slices_Concat_bytebyteL1 slices nf1) y1 = some r := h
    unfold slices_Concat_bytebyteJ3 at h
    refine Tk_blk ?_
    exact Tk_jmpS (HJ1 (wi (size1 + (len y1))) h) [0, 3, 9, 10, 11] [] [0] rfl rfl rfl rfl
   ·intro HJ2
    obtain ⟨hg2, h⟩ := chk_e h
    replace hg2 := not_t hg2
    refine Tk_condF (congrArg (fun b => some (Value.bool b)) hg2) ?_
    refine Tk_skip ?_
    exact Tk_jmpS (HJ2 () h) [0, 3, 9, 10, 11] [] [0] rfl rfl rfl rfl
 ·replace h := br_f hg1 h
  refine Tk_condF (congrArg (fun b => some (Value.bool b)) hg1) ?_
  refine Tk_exit _ rfl ?_
  refine Tk_seq (Tk_region (Tops_step rfl (OpT_move rfl rfl rfl rfl) ?_))
  obtain ⟨growby1, hx2, h⟩ := ob_e h
  refine Tops_exP rfl (OpT_call (w_slices_Grow_bytebyten0 hx2) [] [] rfl rfl rfl rfl rfl callee46 rfl rfl rfl rfl) ?_
  rintro _ ⟨v2, _, _, ⟨_, rfl, rfl, rfl⟩, rfl⟩
  refine Tops_step rfl (OpT_assign rfl rfl rfl rfl) ?_
  refine Tops_nil (Tk_wkS (fr' := [(0, some (vslices1)), (6, some (v2))]) (own' := [some (rowS u8S v2 growby1)]) (shr' := [Fact.sl (Shape.slice u8S) vslices1 slices]) [0, 6] [0] [0] rfl rfl rfl rfl ?_)
  refine Tk_seq (Tk_seq (Tk_region (Tops_step rfl (OpT_move rfl rfl rfl rfl) ?_)))
  refine Tops_step rfl (OpT_lenS rfl rfl rfl rfl Try.underlying55 (i := 0) rfl) ?_
  refine Tops_step rfl (OpT_move rfl rfl rfl rfl) ?_
  refine Tops_nil (Tk_wkS (fr' := [(6, some (v2)), (25, some (vslices1)), (26, some (vI (len slices))), (27, some (vI (0 : Int)))]) (own' := [some (rowS u8S v2 growby1)]) (shr' := [Fact.sl (Shape.slice u8S) vslices1 slices]) [6, 25, 26, 27] [0] [0] rfl rfl rfl rfl ?_)
  refine Tk_block (Tk_loopS (σ := (List UInt8) × Int × Value) [6, 25, 26, 27] [0] [0] (fun s => ⟨[(6, some (s.2.2)), (25, some (vslices1)), (26, some (vI (len slices))), (27, some (vI s.2.1))], [some (rowS u8S s.2.2 s.1)], [Fact.sl (Shape.slice u8S) vslices1 slices]⟩) (fun nf4 s => slices_Concat_bytebyteL4 slices nf4 s.1 s.2.1 = some r) fuel (growby1, (0 : Int), v2) h rfl rfl rfl rfl rfl (fun s h => by cases h) ?_)
  rintro nf4 ⟨newslice1, x2, v3⟩ h
  replace h : slices_Concat_bytebyteL4B slices (slices_Concat_bytebyteL4 slices nf4) newslice1 x2 = some r := h
  unfold slices_Concat_bytebyteL4B at h
  refine Tk_seq (Tk_region (Tops_step rfl (OpT_bin rfl rfl rfl rfl rfl (bin_lss_i (a := x2) (b := len slices))) ?_))
  refine Tops_nil (Tk_seq ?_)
  rcases Bool.eq_false_or_eq_true (decide (x2 < (len slices))) with hg3 | hg3
  ·replace h := br_t hg3 h
   refine Tk_condT (congrArg (fun b => some (Value.bool b)) hg3) ?_
   refine Tk_skip (Tk_seq (Tk_block (Tk_seq (Tk_region ?_))))
   obtain ⟨y2, hx3, h⟩ := ob_e h
   refine Tops_ex rfl (OpT_idxS rfl rfl rfl rfl rfl slF55 (i := 0) rfl hx3) fun p2 => ?_
   refine Tops_ex rfl (OpT_loadPS rfl rfl rfl rfl tyF30 (i := 1) rfl) fun v4 => ?_
   refine Tops_step rfl (OpT_assign rfl rfl rfl rfl) ?_
   refine Tops_nil (Tk_wkS (fr' := [(6, some (v3)), (25, some (vslices1)), (26, some (vI (len slices))), (27, some (vI x2)), (8, some (v4))]) (own' := [some (rowS u8S v3 newslice1)]) (shr' := [Fact.sl (Shape.slice u8S) vslices1 slices, Fact.sl u8S v4 y2]) [6, 25, 26, 27, 8] [0] [0, 2] rfl rfl rfl rfl ?_)
   refine Tk_region (Tops_step rfl (OpT_move rfl rfl rfl rfl) ?_)
   refine Tops_step rfl (OpT_move rfl rfl rfl rfl) ?_
   obtain ⟨hc1, h⟩ := chk_e h
   refine Tops_ex rfl (OpT_append rfl rfl rfl rfl rfl slF30 (i := 0) (j := 1) rfl rfl hc1) fun v5 => ?_
   refine Tops_step rfl (OpT_assign rfl rfl rfl rfl) ?_
   refine Tops_nil (Tk_wkS (fr' := [(6, some (v5)), (25, some (vslices1)), (26, some (vI (len slices))), (27, some (vI x2))]) (own' := [some (rowS u8S v5 (newslice1 ++ y2))]) (shr' := [Fact.sl (Shape.slice u8S) vslices1 slices]) [6, 25, 26, 27] [0] [0] rfl rfl rfl rfl ?_)
   refine Tk_blk (Tk_region (Tops_step rfl (OpT_bin rfl rfl rfl rfl rfl (bin_add_i (a := x2) (b := (1 : Int)))) ?_))
   refine Tops_step rfl (OpT_move rfl rfl rfl rfl) ?_
   refine Tops_nil (Tk_wkS (fr' := [(6, some (v5)), (25, some (vslices1)), (26, some (vI (len slices))), (27, some (vI (wi (x2 + (1 : Int)))))]) (own' := [some (rowS u8S v5 (newslice1 ++ y2))]) (shr' := [Fact.sl (Shape.slice u8S) vslices1 slices]) [6, 25, 26, 27] [0] [0] rfl rfl rfl rfl ?_)
   exact Tk_backS (newslice1 ++ y2, wi (x2 + (1 : Int)), v5) h [6, 25, 26, 27] [0] [0] rfl rfl rfl rfl rfl
  ·replace h := br_f hg3 h
   refine Tk_condF (congrArg (fun b => some (Value.bool b)) hg3) ?_
   refine Tk_exit _ rfl ?_
   refine Tk_seq (Tk_region (Tops_step rfl (OpT_move rfl rfl rfl rfl) ?_))
   refine Tops_step rfl (OpT_assign rfl rfl rfl rfl) ?_
   refine Tops_nil (Tk_wkS (fr' := [(2, some (v3))]) (own' := [some (rowS u8S v3 newslice1)]) (shr' := []) [2] [0] [] rfl rfl rfl rfl ?_)
   obtain rfl := Option.some.inj h
   exact Tk_retV rfl rfl (resA (vs := [v3]) rfl ⟨rfl, trivial⟩) [0] [] rfl rfl rfl ⟨v3, rfl, rfl, rfl⟩

theorem ws_kit_Own {b : List UInt8} {vb1 : Value} {r : (List UInt8)} (h : kit_Own b = some r) :
  Ctr Try.prog 16 #[vb1] [] [Fact.sl u8S vb1 b]
   (fun rv own shr => ∃ (w1 : Value), rv = w1 ∧ own = [] ∧ shr = [Fact.sl u8S w1 r]) :=
 Ctr.sh (w_kit_Own h) (by rintro w1 _ _ ⟨_, rfl, rfl, rfl⟩; exact ⟨[], _, _, _, _, rfl, w1, rfl, rfl, rfl⟩)

set_option maxRecDepth 100000 in
set_option maxHeartbeats 4000000 in
theorem w_slices_Clone_apiSegapiSeg {sp0 : List Seg} {vsp01 : Value} {r : (List Seg)} (h : slices_Clone_apiSegapiSeg sp0 = some r) :
  Ctr Try.prog 47 #[vsp01] [] [Fact.sl SegS vsp01 sp0]
   (fun rv own shr => ∃ (w1 : Value), rv = w1 ∧ own = [(rowS SegS w1 r)] ∧ shr = []) := by
 unfold slices_Clone_apiSegapiSeg at h
 refine Ctr.mk (args := [vsp01]) Try.func47 rfl rfl (fun R0 w0 B => ?_)
 refine Tk_seq (Tk_region (Tops_step rfl (OpT_assign rfl rfl rfl rfl) ?_))
 refine Tops_nil (Tk_wkS (fr' := [(0, some (vsp01))]) (own' := []) (shr' := [Fact.sl SegS vsp01 sp0]) [0] [] [0] rfl rfl rfl rfl ?_)
 refine Tk_seq (Tk_seq (Tk_region (Tops_step rfl (OpT_move rfl rfl rfl rfl) ?_)))
 refine Tops_exP rfl (OpT_eqNil rfl rfl rfl (.inl rfl) rfl rfl Try.underlying49 (i := 0) rfl) ?_
 rintro _ ⟨q1, hq1, rfl⟩
 refine Tops_nil (Tk_wkS (fr' := [(0, some (vsp01)), (4, some (vB q1))]) (own' := []) (shr' := [Fact.sl SegS vsp01 sp0]) [0, 4] [] [0] rfl rfl rfl rfl ?_)
 rcases Bool.eq_false_or_eq_true q1 with hg1 | hg1
 ·obtain rfl := hq1 hg1
  replace h : some ([] : List Seg) = some r := h
  refine Tk_condT (congrArg (fun b => some (Value.bool b)) hg1) ?_
  refine Tk_seq (Tk_region (Tops_step rfl (OpT_assign rfl rfl rfl rfl) ?_))
  refine Tops_nil (Tk_wkS (fr' := [(2, some (.slice none 0 0))]) (own' := []) (shr' := []) [2] [] [] rfl rfl rfl rfl ?_)
  refine Tk_nilrow SegS ?_
  obtain rfl := Option.some.inj h
  exact Tk_retV rfl rfl (resA (vs := [.slice none 0 0]) rfl ⟨rfl, trivial⟩) [0] [] rfl rfl rfl ⟨(.slice none 0 0), rfl, rfl, rfl⟩
 ·refine Tk_condF (congrArg (fun b => some (Value.bool b)) hg1) ?_
  refine Tk_skip (Tk_seq (Tk_region (Tops_ex rfl (OpT_buildSlice (S := SegS) (xs := ([] : List Seg)) (css := []) (cs := []) (e := 81) rfl rfl rfl rfl (bldF slF49 (by decide) (by kernel_rfl)) rfl rfl rfl rfl (rel_plainD (S := SegS) (xs := ([] : List Seg)) (css := []) rfl rfl)) fun v1 => ?_)))
  refine Tops_step rfl (OpT_move rfl rfl rfl rfl) ?_
  obtain ⟨hc1, h⟩ := chk_e h
  refine Tops_ex rfl (OpT_append rfl rfl rfl rfl rfl slF49 (i := 0) (j := 0) rfl rfl hc1) fun v2 => ?_
  refine Tops_step rfl (OpT_assign rfl rfl rfl rfl) ?_
  refine Tops_nil (Tk_wkS (fr' := [(2, some (v2))]) (own' := [some (rowS SegS v2 sp0)]) (shr' := []) [2] [0] [] rfl rfl rfl rfl ?_)
  obtain rfl := Option.some.inj h
  exact Tk_retV rfl rfl (resA (vs := [v2]) rfl ⟨rfl, trivial⟩) [0] [] rfl rfl rfl ⟨v2, rfl, rfl, rfl⟩

set_option maxRecDepth 100000 in
set_option maxHeartbeats 4000000 in
theorem w_seg_Cut {l : List Seg} {fromp1 : UInt64} {np2 : UInt64} {vl1 : Value} {r : (List Seg)} (h : seg_Cut l fromp1 np2 = some r) :
  Ctr Try.prog 38 #[vl1, vU64 fromp1, vU64 np2] [] [Fact.sl SegS vl1 l]
   (fun rv own shr => ∃ (w1 : Value), rv = w1 ∧ own = [(rowS SegS w1 r)] ∧ shr = []) := by
 unfold seg_Cut at h
 refine Ctr.mk (args := [vl1, vU64 fromp1, vU64 np2]) Try.func38 rfl rfl (fun R0 w0 B => ?_)
 refine Tk_seq (Tk_region (Tops_step rfl (OpT_assign rfl rfl rfl rfl) ?_))
 refine Tops_nil (Tk_wkS (fr' := [(0, some (vl1)), (1, some (vU64 fromp1)), (2, some (vU64 np2))]) (own' := []) (shr' := [Fact.sl SegS vl1 l]) [0, 1, 2] [] [0] rfl rfl rfl rfl ?_)
 refine Tk_seq (Tk_seq (Tk_region (Tops_step rfl (OpT_move rfl rfl rfl rfl) ?_)))
 obtain ⟨check1, hx1, h⟩ := ob_e h
 refine Tops_exP rfl (OpT_call (w_seg_Check hx1) [] [0] rfl rfl rfl rfl rfl callee42 rfl rfl rfl rfl) ?_
 rintro _ ⟨_, _, _, ⟨rfl, rfl, rfl⟩, rfl⟩
 refine Tops_step rfl (OpT_bin rfl rfl rfl rfl rfl (bin_neq_i (a := check1) (b := (0 : Int)))) ?_
 refine Tops_nil (Tk_wkS (fr' := [(0, some (vl1)), (1, some (vU64 fromp1)), (2, some (vU64 np2)), (10, some (vB (check1 != (0 : Int))))]) (own' := []) (shr' := [Fact.sl SegS vl1 l]) [0, 1, 2, 10] [] [0] rfl rfl rfl rfl ?_)
 rcases Bool.eq_false_or_eq_true (check1 != (0 : Int)) with hg1 | hg1
 ·replace h := br_t hg1 h
  refine Tk_condT (congrArg (fun b => some (Value.bool b)) hg1) ?_
  refine Tk_seq (Tk_region (Tops_step rfl (OpT_assign rfl rfl rfl rfl) ?_))
  refine Tops_nil (Tk_wkS (fr' := [(6, some (.slice none 0 0))]) (own' := []) (shr' := []) [6] [] [] rfl rfl rfl rfl ?_)
  refine Tk_nilrow SegS ?_
  obtain rfl := Option.some.inj h
  exact Tk_retV rfl rfl (resA (vs := [.slice none 0 0]) rfl ⟨rfl, trivial⟩) [0] [] rfl rfl rfl ⟨(.slice none 0 0), rfl, rfl, rfl⟩
 ·replace h := br_f hg1 h
  refine Tk_condF (congrArg (fun b => some (Value.bool b)) hg1) ?_
  refine Tk_skip (Tk_seq (Tk_region (Tops_step rfl (OpT_move rfl rfl rfl rfl) ?_)))
  obtain ⟨seg1, hx2, h⟩ := ob_e h
  refine Tops_exP rfl (OpT_call (w_slices_Clone_apiSegapiSeg hx2) [] [0] rfl rfl rfl rfl rfl callee47 rfl rfl rfl rfl) ?_
  rintro _ ⟨v1, _, _, ⟨_, rfl, rfl, rfl⟩, rfl⟩
  refine Tops_ex rfl (OpT_alloc rfl rfl rfl tyZ91) fun b1 => ?_
  refine Tops_step rfl (OpT_storeV (cs' := [v1]) rfl rfl rfl rfl tyF91 (i := 1) rfl (is_row (i := 0) rfl) rfl rfl) ?_
  refine Tops_nil (Tk_wkS (fr' := [(1, some (vU64 fromp1)), (2, some (vU64 np2)), (7, some (.pointer (some ⟨b1, 0, none⟩)))]) (own' := [some (rowS SegS v1 seg1), some (cellsR b1 91 [v1])]) (shr' := []) [1, 2, 7] [0, 1] [] rfl rfl rfl rfl ?_)
  refine Tk_seq (Tk_region (Tops_step rfl (OpT_move rfl rfl rfl rfl) ?_))
  refine Tops_retire (i := 0) rfl ?_
  obtain ⟨eat1, hx3, h⟩ := ob_e h
  refine Tops_exP rfl (OpT_callP [0, 2, 3] (w_seg_row_eat hx3) [1] [0] rfl rfl rfl rfl rfl callee45 rfl rfl rfl rfl rfl) ?_
  rintro _ ⟨v2, _, _, ⟨_, v3, rfl, rfl, rfl⟩, rfl⟩
  refine Tops_nil (Tk_wkS (fr' := [(2, some (vU64 np2)), (7, some (.pointer (some ⟨b1, 0, none⟩)))]) (own' := [some (cellsR b1 91 [v3])]) (shr' := [Fact.sl SegS v3 eat1.2]) [2, 7] [1] [1] rfl rfl rfl rfl ?_)
  refine Tk_seq (Tk_region (Tops_step rfl (OpT_move rfl rfl rfl rfl) ?_))
  obtain ⟨eat2, hx4, h⟩ := ob_e h
  refine Tops_exP rfl (OpT_callP [1, 2] (w_seg_row_eat hx4) [0] [0] rfl rfl rfl rfl rfl callee45 rfl rfl rfl rfl rfl) ?_
  rintro _ ⟨v4, _, _, ⟨_, v5, rfl, rfl, rfl⟩, rfl⟩
  refine Tops_step rfl (OpT_assign rfl rfl rfl rfl) ?_
  refine Tops_nil (Tk_wkS (fr' := [(6, some (v4))]) (own' := [some (rowS SegS v4 eat2.1)]) (shr' := []) [6] [1] [] rfl rfl rfl rfl ?_)
  obtain rfl := Option.some.inj h
  exact Tk_retV rfl rfl (resA (vs := [v4]) rfl ⟨rfl, trivial⟩) [0] [] rfl rfl rfl ⟨v4, rfl, rfl, rfl⟩

set_option maxRecDepth 100000 in
set_option maxHeartbeats 4000000 in
theorem w_seg_Gather {m : gmem_Mem} {l : List Seg} {b_m : Nat} {vm1 : Value} {vm2 : Value} {vsm1 : List Value} {vl1 : Value} {r : ((List UInt8) × Int)} (h : seg_Gather m l = some r) :
  Ctr Try.prog 37 #[.pointer (some ⟨b_m, 0, none⟩), vl1] [(cellsR b_m 76 [vm1, vm2]), (rowsX u8S true vm2 vsm1 m.b none)] [Fact.sl RegionS vm1 m.l, Fact.sl SegS vl1 l]
   (fun rv own shr => ∃ (w1 : Value), rv = .tuple #[w1, vI r.2] ∧ own = [(cellsR b_m 76 [vm1, vm2]), (rowsX u8S true vm2 vsm1 m.b none), (rowS u8S w1 r.1)] ∧ shr = []) := by
 unfold seg_Gather at h
 refine Ctr.mk (args := [.pointer (some ⟨b_m, 0, none⟩), vl1]) Try.func37 rfl rfl (fun R0 w0 B => ?_)
 refine Tk_seq (Tk_region (Tops_step rfl (OpT_assign rfl rfl rfl rfl) ?_))
 refine Tops_step rfl (OpT_assign rfl rfl rfl rfl) ?_
 refine Tops_nil (Tk_wkS (fr' := [(0, some (.pointer (some ⟨b_m, 0, none⟩))), (1, some (vl1))]) (own' := [some (cellsR b_m 76 [vm1, vm2]), some (rowsX u8S true vm2 vsm1 m.b none)]) (shr' := [Fact.sl RegionS vm1 m.l, Fact.sl SegS vl1 l]) [0, 1] [0, 1] [0, 1] rfl rfl rfl rfl ?_)
 refine Tk_seq (Tk_seq (Tk_region (Tops_step rfl (OpT_move rfl rfl rfl rfl) ?_)))
 refine Tops_step rfl (OpT_move rfl rfl rfl rfl) ?_
 obtain ⟨in1, hx1, h⟩ := ob_e h
 refine Tops_exP rfl (OpT_callP [2, 3] (w_seg_In hx1) [0, 1] [0, 1] rfl rfl rfl rfl rfl callee32 rfl rfl rfl rfl rfl) ?_
 rintro _ ⟨_, _, _, ⟨rfl, rfl, rfl⟩, rfl⟩
 refine Tops_step rfl (OpT_assign rfl rfl rfl rfl) ?_
 refine Tops_nil (Tk_wkS (fr' := [(0, some (.pointer (some ⟨b_m, 0, none⟩))), (1, some (vl1)), (6, some (vI in1))]) (own' := [some (cellsR b_m 76 [vm1, vm2]), some (rowsX u8S true vm2 vsm1 m.b none)]) (shr' := [Fact.sl RegionS vm1 m.l, Fact.sl SegS vl1 l]) [0, 1, 6] [0, 1] [0, 1] rfl rfl rfl rfl ?_)
 refine Tk_seq (Tk_region (Tops_step rfl (OpT_move rfl rfl rfl rfl) ?_))
 refine Tops_step rfl (OpT_bin rfl rfl rfl rfl rfl (bin_neq_i (a := in1) (b := (0 : Int)))) ?_
 refine Tops_nil (Tk_wkS (fr' := [(0, some (.pointer (some ⟨b_m, 0, none⟩))), (1, some (vl1)), (6, some (vI in1)), (16, some (vB (in1 != (0 : Int))))]) (own' := [some (cellsR b_m 76 [vm1, vm2]), some (rowsX u8S true vm2 vsm1 m.b none)]) (shr' := [Fact.sl RegionS vm1 m.l, Fact.sl SegS vl1 l]) [0, 1, 6, 16] [0, 1] [0, 1] rfl rfl rfl rfl ?_)
 rcases Bool.eq_false_or_eq_true (in1 != (0 : Int)) with hg1 | hg1
 ·replace h := br_t hg1 h
  refine Tk_condT (congrArg (fun b => some (Value.bool b)) hg1) ?_
  refine Tk_seq (Tk_region (Tops_step rfl (OpT_move rfl rfl rfl rfl) ?_))
  refine Tops_step rfl (OpT_assign rfl rfl rfl rfl) ?_
  refine Tops_step rfl (OpT_assign rfl rfl rfl rfl) ?_
  refine Tops_nil (Tk_wkS (fr' := [(4, some (.slice none 0 0)), (5, some (vI in1))]) (own' := [some (cellsR b_m 76 [vm1, vm2]), some (rowsX u8S true vm2 vsm1 m.b none)]) (shr' := [Fact.sl RegionS vm1 m.l]) [4, 5] [0, 1] [0] rfl rfl rfl rfl ?_)
  refine Tk_nilrow u8S ?_
  obtain rfl := Option.some.inj h
  exact Tk_retV rfl rfl (resA (vs := [.slice none 0 0, vI in1]) rfl ⟨rfl, rfl, trivial⟩) [0, 1, 2] [] rfl rfl rfl ⟨(.slice none 0 0), rfl, rfl, rfl⟩
 ·replace h := br_f hg1 h
  refine Tk_condF (congrArg (fun b => some (Value.bool b)) hg1) ?_
  refine Tk_skip (Tk_seq (Tk_region (Tops_step rfl (OpT_assign rfl rfl rfl rfl) ?_)))
  refine Tops_nil (Tk_wkS (fr' := [(0, some (.pointer (some ⟨b_m, 0, none⟩))), (1, some (vl1)), (7, some (.slice none 0 0))]) (own' := [some (cellsR b_m 76 [vm1, vm2]), some (rowsX u8S true vm2 vsm1 m.b none)]) (shr' := [Fact.sl RegionS vm1 m.l, Fact.sl SegS vl1 l]) [0, 1, 7] [0, 1] [0, 1] rfl rfl rfl rfl ?_)
  refine Tk_seq (Tk_seq (Tk_region (Tops_step rfl (OpT_move rfl rfl rfl rfl) ?_)))
  obtain ⟨part1, hx2, h⟩ := ob_e h
  refine Tops_exP rfl (OpT_call (w_seg_Part hx2) [] [1] rfl rfl rfl rfl rfl callee36 rfl rfl rfl rfl) ?_
  rintro _ ⟨v1, _, _, ⟨_, rfl, rfl, rfl⟩, rfl⟩
  refine Tops_step rfl (OpT_lenO rfl rfl rfl rfl Try.underlying49 (i := 2) rfl) ?_
  refine Tops_step rfl (OpT_move rfl rfl rfl rfl) ?_
  refine Tops_nil (Tk_wkS (fr' := [(0, some (.pointer (some ⟨b_m, 0, none⟩))), (7, some (.slice none 0 0)), (19, some (v1)), (20, some (vI (len part1))), (21, some (vI (0 : Int)))]) (own' := [some (cellsR b_m 76 [vm1, vm2]), some (rowsX u8S true vm2 vsm1 m.b none), some (rowS SegS v1 part1)]) (shr' := [Fact.sl RegionS vm1 m.l]) [0, 7, 19, 20, 21] [0, 1, 2] [0] rfl rfl rfl rfl ?_)
  refine Tk_block (Tk_nilrow (Shape.slice u8S) ?_)
  refine Tk_loopS (σ := (List (List UInt8)) × (List Seg) × Int × Value × Value) [0, 7, 19, 20, 21] [0, 1, 3, 2] [0] (fun s => ⟨[(0, some (.pointer (some ⟨b_m, 0, none⟩))), (7, some (s.2.2.2.1)), (19, some (s.2.2.2.2)), (20, some (vI (len part1))), (21, some (vI s.2.2.1))], [some (cellsR b_m 76 [vm1, vm2]), some (rowsX u8S true vm2 vsm1 m.b none), some (rowS (Shape.slice u8S) s.2.2.2.1 s.1), some (rowS SegS s.2.2.2.2 s.2.1)], [Fact.sl RegionS vm1 m.l]⟩) (fun nf1 s => seg_GatherL1 m part1 nf1 s.1 s.2.1 s.2.2.1 = some r) fuel ([], part1, (0 : Int), (.slice none 0 0), v1) h rfl rfl rfl rfl rfl (fun s h => by cases h) ?_
  rintro nf1 ⟨parts1, l1, x1, v2, v3⟩ h
  replace h : seg_GatherL1B m part1 (seg_GatherL1 m part1 nf1) parts1 l1 x1 = some r := h
  unfold seg_GatherL1B at h
  refine Tk_seq (Tk_region (Tops_step rfl (OpT_bin rfl rfl rfl rfl rfl (bin_lss_i (a := x1) (b := len part1))) ?_))
  refine Tops_nil (Tk_seq ?_)
  rcases Bool.eq_false_or_eq_true (decide (x1 < (len part1))) with hg2 | hg2
  ·replace h := br_t hg2 h
   refine Tk_condT (congrArg (fun b => some (Value.bool b)) hg2) ?_
   refine Tk_skip (Tk_seq (Tk_block (Tk_seq (Tk_region ?_))))
   obtain ⟨s1, hx3, h⟩ := ob_e h
   refine Tops_step rfl (OpT_idxO rfl rfl rfl rfl rfl slF49 (i := 3) rfl hx3) ?_
   refine Tops_step rfl (OpT_loadOA (S := SegS) (vs := [vU64 s1.At, vU32 s1.Len, vB s1.Write]) rfl rfl rfl rfl rfl tyF81 (i := 3) rfl hx3 rfl) ?_
   refine Tops_ex rfl (OpT_alloc rfl rfl rfl tyZ81) fun b1 => ?_
   refine Tops_step rfl (OpT_storeC (cs' := [vU64 s1.At, vU32 s1.Len, vB s1.Write]) rfl rfl rfl rfl tyF81 (i := 4) rfl rfl rfl (one_of rfl) rfl) ?_
   refine Tops_nil (Tk_wkS (fr' := [(0, some (.pointer (some ⟨b_m, 0, none⟩))), (7, some (v2)), (19, some (v3)), (20, some (vI (len part1))), (21, some (vI x1)), (9, some (.pointer (some ⟨b1, 0, none⟩)))]) (own' := [some (cellsR b_m 76 [vm1, vm2]), some (rowsX u8S true vm2 vsm1 m.b none), some (rowS (Shape.slice u8S) v2 parts1), some (rowS SegS v3 l1), some (cellsR b1 81 [vU64 s1.At, vU32 s1.Len, vB s1.Write])]) (shr' := [Fact.sl RegionS vm1 m.l]) [0, 7, 19, 20, 21, 9] [0, 1, 2, 3, 4] [0] rfl rfl rfl rfl ?_)
   refine Tk_seq (Tk_region (Tops_step rfl (OpT_move rfl rfl rfl rfl) ?_))
   refine Tops_step rfl (OpT_fieldC rfl rfl rfl rfl fldF81x0) ?_
   refine Tops_step rfl (OpT_loadC rfl rfl rfl rfl tyF38 (i := 4) rfl rfl) ?_
   refine Tops_step rfl (OpT_fieldC rfl rfl rfl rfl fldF81x1) ?_
   refine Tops_step rfl (OpT_loadC rfl rfl rfl rfl tyF50 (i := 4) rfl rfl) ?_
   refine Tops_step rfl (OpT_cnv rfl rfl rfl rfl (cnv_u32_i (n := s1.Len) Try.underlying50 Try.underlying3)) ?_
   obtain ⟨read1, hx4, h⟩ := ob_e h
   refine Tops_exP rfl (OpT_callP [5, 6, 2, 3, 4, 7] (w_gmem_Mem_Read hx4) [0, 1] [0] rfl rfl rfl rfl rfl callee43 rfl rfl rfl rfl rfl) ?_
   rintro _ ⟨_, _, _, ⟨v4, rfl, rfl, rfl⟩, rfl⟩
   refine Tops_step rfl (OpT_move rfl rfl rfl rfl) ?_
   refine Tops_step rfl (OpT_extract rfl rfl rfl rfl rfl) ?_
   refine Tops_step rfl (OpT_extract rfl rfl rfl rfl rfl) ?_
   refine Tops_step rfl (OpT_assign rfl rfl rfl rfl) ?_
   refine Tops_step rfl (OpT_assign rfl rfl rfl rfl) ?_
   refine Tops_nil (Tk_wkS (fr' := [(0, some (.pointer (some ⟨b_m, 0, none⟩))), (7, some (v2)), (19, some (v3)), (20, some (vI (len part1))), (21, some (vI x1)), (10, some (v4)), (11, some (vI read1.2))]) (own' := [some (cellsR b_m 76 [vm1, vm2]), some (rowsX u8S true vm2 vsm1 m.b none), some (rowS (Shape.slice u8S) v2 parts1), some (rowS SegS v3 l1), some (rowS u8S v4 read1.1)]) (shr' := [Fact.sl RegionS vm1 m.l]) [0, 7, 19, 20, 21, 10, 11] [0, 1, 2, 3, 5] [0] rfl rfl rfl rfl ?_)
   refine Tk_seq (Tk_seq (Tk_region (Tops_step rfl (OpT_move rfl rfl rfl rfl) ?_)))
   refine Tops_step rfl (OpT_bin rfl rfl rfl rfl rfl (bin_neq_i (a := read1.2) (b := (0 : Int)))) ?_
   refine Tops_nil (Tk_wkS (fr' := [(0, some (.pointer (some ⟨b_m, 0, none⟩))), (7, some (v2)), (19, some (v3)), (20, some (vI (len part1))), (21, some (vI x1)), (10, some (v4)), (11, some (vI read1.2)), (36, some (vB (read1.2 != (0 : Int))))]) (own' := [some (cellsR b_m 76 [vm1, vm2]), some (rowsX u8S true vm2 vsm1 m.b none), some (rowS (Shape.slice u8S) v2 parts1), some (rowS SegS v3 l1), some (rowS u8S v4 read1.1)]) (shr' := [Fact.sl RegionS vm1 m.l]) [0, 7, 19, 20, 21, 10, 11, 36] [0, 1, 2, 3, 4] [0] rfl rfl rfl rfl ?_)
   rcases Bool.eq_false_or_eq_true (read1.2 != (0 : Int)) with hg3 | hg3
   ·replace h := br_t hg3 h
    refine Tk_condT (congrArg (fun b => some (Value.bool b)) hg3) ?_
    refine Tk_seq (Tk_region (Tops_step rfl (OpT_move rfl rfl rfl rfl) ?_))
    refine Tops_step rfl (OpT_assign rfl rfl rfl rfl) ?_
    refine Tops_step rfl (OpT_assign rfl rfl rfl rfl) ?_
    refine Tops_nil (Tk_wkS (fr' := [(4, some (.slice none 0 0)), (5, some (vI read1.2))]) (own' := [some (cellsR b_m 76 [vm1, vm2]), some (rowsX u8S true vm2 vsm1 m.b none)]) (shr' := [Fact.sl RegionS vm1 m.l]) [4, 5] [0, 1] [0] rfl rfl rfl rfl ?_)
    refine Tk_nilrow u8S ?_
    obtain rfl := Option.some.inj h
    exact Tk_retV rfl rfl (resA (vs := [.slice none 0 0, vI read1.2]) rfl ⟨rfl, rfl, trivial⟩) [0, 1, 2] [] rfl rfl rfl ⟨(.slice none 0 0), rfl, rfl, rfl⟩
   ·replace h := br_f hg3 h
    refine Tk_condF (congrArg (fun b => some (Value.bool b)) hg3) ?_
    refine Tk_skip (Tk_region (Tops_step rfl (OpT_move rfl rfl rfl rfl) ?_))
    refine Tops_step rfl (OpT_move rfl rfl rfl rfl) ?_
    refine Tops_retire (i := 4) rfl ?_
    refine Tops_ex rfl (OpT_buildSl (Shape.slice u8S) (vs := [v4]) (xs := [read1.1]) rfl rfl rfl rfl rfl slF55 (isl_cons (is_sl (i := 1) rfl) isl_nil) rfl rfl rfl (rel_cons (rel_sl (i := 1) rfl) (rel_nil rfl))) fun v5 => ?_
    refine Tops_retire (i := 5) rfl ?_
    obtain ⟨hc1, h⟩ := chk_e h
    refine Tops_ex rfl (OpT_append rfl rfl rfl rfl rfl slF55 (i := 2) (j := 2) rfl rfl hc1) fun v6 => ?_
    refine Tops_step rfl (OpT_assign rfl rfl rfl rfl) ?_
    refine Tops_nil (Tk_wkS (fr' := [(0, some (.pointer (some ⟨b_m, 0, none⟩))), (7, some (v6)), (19, some (v3)), (20, some (vI (len part1))), (21, some (vI x1))]) (own' := [some (cellsR b_m 76 [vm1, vm2]), some (rowsX u8S true vm2 vsm1 m.b none), some (rowS (Shape.slice u8S) v6 (parts1 ++ [read1.1])), some (rowS SegS v3 l1)]) (shr' := [Fact.sl RegionS vm1 m.l]) [0, 7, 19, 20, 21] [0, 1, 2, 3] [0] rfl rfl rfl rfl ?_)
    refine Tk_blk (Tk_region (Tops_step rfl (OpT_bin rfl rfl rfl rfl rfl (bin_add_i (a := x1) (b := (1 : Int)))) ?_))
    refine Tops_step rfl (OpT_move rfl rfl rfl rfl) ?_
    refine Tops_nil (Tk_wkS (fr' := [(0, some (.pointer (some ⟨b_m, 0, none⟩))), (7, some (v6)), (19, some (v3)), (20, some (vI (len part1))), (21, some (vI (wi (x1 + (1 : Int)))))]) (own' := [some (cellsR b_m 76 [vm1, vm2]), some (rowsX u8S true vm2 vsm1 m.b none), some (rowS (Shape.slice u8S) v6 (parts1 ++ [read1.1])), some (rowS SegS v3 l1)]) (shr' := [Fact.sl RegionS vm1 m.l]) [0, 7, 19, 20, 21] [0, 1, 2, 3] [0] rfl rfl rfl rfl ?_)
    exact Tk_backS (parts1 ++ [read1.1], l1, wi (x1 + (1 : Int)), v6, v3) h [0, 7, 19, 20, 21] [0, 1, 2, 3] [0] rfl rfl rfl rfl rfl
  ·replace h := br_f hg2 h
   refine Tk_condF (congrArg (fun b => some (Value.bool b)) hg2) ?_
   refine Tk_exit _ rfl ?_
   refine Tk_seq (Tk_region (Tops_step rfl (OpT_move rfl rfl rfl rfl) ?_))
   obtain ⟨concat1, hx5, h⟩ := ob_e h
   refine Tops_exP rfl (OpT_callB [2] [0, 1, 2, 3, 4] (w_slices_Concat_bytebyte hx5) [] rfl rfl rfl rfl rfl callee35 rfl rfl rfl rfl rfl rfl (bor_cons (bor_row 2 rfl rfl) bor_nil) (by rintro _ _ _ ⟨_, rfl, rfl, rfl⟩; exact ⟨rfl, (ri_cons (ri_row (S := u8S) rfl _ _) ri_nil)⟩)) ?_
   rintro _ ⟨v7, _, _, ⟨_, rfl, rfl, rfl⟩, rfl⟩
   refine Tops_step rfl (OpT_assign rfl rfl rfl rfl) ?_
   refine Tops_step rfl (OpT_assign rfl rfl rfl rfl) ?_
   refine Tops_nil (Tk_wkS (fr' := [(4, some (v7)), (5, some (vI (0 : Int)))]) (own' := [some (cellsR b_m 76 [vm1, vm2]), some (rowsX u8S true vm2 vsm1 m.b none), some (rowS u8S v7 concat1)]) (shr' := [Fact.sl RegionS vm1 m.l]) [4, 5] [0, 1, 4] [0] rfl rfl rfl rfl ?_)
   obtain rfl := Option.some.inj h
   exact Tk_retV rfl rfl (resA (vs := [v7, vI (0 : Int)]) rfl ⟨rfl, rfl, trivial⟩) [0, 1, 2] [] rfl rfl rfl ⟨v7, rfl, rfl, rfl⟩

set_option maxRecDepth 100000 in
set_option maxHeartbeats 4000000 in
theorem w_cons_Join {m : gmem_Mem} {bufs : List (List Seg)} {written : List UInt32} {b_m : Nat} {vm1 : Value} {vm2 : Value} {vsm1 : List Value} {vbufs1 : Value} {vwritten1 : Value} {r : ((List UInt8) × Int)} (h : cons_Join m bufs written = some r) :
  Ctr Try.prog 22 #[.pointer (some ⟨b_m, 0, none⟩), vbufs1, vwritten1] [(cellsR b_m 76 [vm1, vm2]), (rowsX u8S true vm2 vsm1 m.b none)] [Fact.sl RegionS vm1 m.l, Fact.sl (Shape.slice SegS) vbufs1 bufs, Fact.sl u32S vwritten1 written]
   (fun rv own shr => ∃ (w1 : Value), rv = .tuple #[w1, vI r.2] ∧ own = [(cellsR b_m 76 [vm1, vm2]), (rowsX u8S true vm2 vsm1 m.b none), (rowS u8S w1 r.1)] ∧ shr = []) := by
 unfold cons_Join at h
 refine Ctr.mk (args := [.pointer (some ⟨b_m, 0, none⟩), vbufs1, vwritten1]) Try.func22 rfl rfl (fun R0 w0 B => ?_)
 refine Tk_seq (Tk_region (Tops_step rfl (OpT_assign rfl rfl rfl rfl) ?_))
 refine Tops_step rfl (OpT_assign rfl rfl rfl rfl) ?_
 refine Tops_nil (Tk_wkS (fr' := [(0, some (.pointer (some ⟨b_m, 0, none⟩))), (1, some (vbufs1)), (2, some (vwritten1))]) (own' := [some (cellsR b_m 76 [vm1, vm2]), some (rowsX u8S true vm2 vsm1 m.b none)]) (shr' := [Fact.sl RegionS vm1 m.l, Fact.sl (Shape.slice SegS) vbufs1 bufs, Fact.sl u32S vwritten1 written]) [0, 1, 2] [0, 1] [0, 1, 2] rfl rfl rfl rfl ?_)
 refine Tk_seq (Tk_seq (Tk_region (Tops_step rfl (OpT_move rfl rfl rfl rfl) ?_)))
 refine Tops_step rfl (OpT_ptrNil rfl rfl rfl (.inl rfl) rfl rfl ptrF32) ?_
 refine Tops_nil (Tk_wkS (fr' := [(0, some (.pointer (some ⟨b_m, 0, none⟩))), (1, some (vbufs1)), (2, some (vwritten1)), (20, some (vB false))]) (own' := [some (cellsR b_m 76 [vm1, vm2]), some (rowsX u8S true vm2 vsm1 m.b none)]) (shr' := [Fact.sl RegionS vm1 m.l, Fact.sl (Shape.slice SegS) vbufs1 bufs, Fact.sl u32S vwritten1 written]) [0, 1, 2, 20] [0, 1] [0, 1, 2] rfl rfl rfl rfl ?_)
 refine Tk_condF rfl ?_
 refine Tk_skip (Tk_seq (Tk_seq (Tk_region (Tops_step rfl (OpT_move rfl rfl rfl rfl) ?_))))
 refine Tops_step rfl (OpT_lenS rfl rfl rfl rfl Try.underlying45 (i := 1) rfl) ?_
 refine Tops_step rfl (OpT_move rfl rfl rfl rfl) ?_
 refine Tops_step rfl (OpT_lenS rfl rfl rfl rfl Try.underlying41 (i := 2) rfl) ?_
 refine Tops_step rfl (OpT_bin rfl rfl rfl rfl rfl (bin_neq_i (a := len bufs) (b := len written))) ?_
 refine Tops_nil (Tk_wkS (fr' := [(0, some (.pointer (some ⟨b_m, 0, none⟩))), (1, some (vbufs1)), (2, some (vwritten1)), (25, some (vB ((len bufs) != (len written))))]) (own' := [some (cellsR b_m 76 [vm1, vm2]), some (rowsX u8S true vm2 vsm1 m.b none)]) (shr' := [Fact.sl RegionS vm1 m.l, Fact.sl (Shape.slice SegS) vbufs1 bufs, Fact.sl u32S vwritten1 written]) [0, 1, 2, 25] [0, 1] [0, 1, 2] rfl rfl rfl rfl ?_)
 rcases Bool.eq_false_or_eq_true ((len bufs) != (len written)) with hg1 | hg1
 ·replace h := br_t hg1 h
  refine Tk_condT (congrArg (fun b => some (Value.bool b)) hg1) ?_
  refine Tk_seq (Tk_region (Tops_step rfl (OpT_assign rfl rfl rfl rfl) ?_))
  refine Tops_step rfl (OpT_assign rfl rfl rfl rfl) ?_
  refine Tops_nil (Tk_wkS (fr' := [(6, some (.slice none 0 0)), (7, some (vI (2 : Int)))]) (own' := [some (cellsR b_m 76 [vm1, vm2]), some (rowsX u8S true vm2 vsm1 m.b none)]) (shr' := [Fact.sl RegionS vm1 m.l]) [6, 7] [0, 1] [0] rfl rfl rfl rfl ?_)
  refine Tk_nilrow u8S ?_
  obtain rfl := Option.some.inj h
  exact Tk_retV rfl rfl (resA (vs := [.slice none 0 0, vI (2 : Int)]) rfl ⟨rfl, rfl, trivial⟩) [0, 1, 2] [] rfl rfl rfl ⟨(.slice none 0 0), rfl, rfl, rfl⟩
 ·replace h := br_f hg1 h
  refine Tk_condF (congrArg (fun b => some (Value.bool b)) hg1) ?_
  refine Tk_skip (Tk_seq (Tk_region (Tops_step rfl (OpT_assign rfl rfl rfl rfl) ?_)))
  refine Tops_nil (Tk_wkS (fr' := [(0, some (.pointer (some ⟨b_m, 0, none⟩))), (1, some (vbufs1)), (2, some (vwritten1)), (8, some (.slice none 0 0))]) (own' := [some (cellsR b_m 76 [vm1, vm2]), some (rowsX u8S true vm2 vsm1 m.b none)]) (shr' := [Fact.sl RegionS vm1 m.l, Fact.sl (Shape.slice SegS) vbufs1 bufs, Fact.sl u32S vwritten1 written]) [0, 1, 2, 8] [0, 1] [0, 1, 2] rfl rfl rfl rfl ?_)
  refine Tk_seq (Tk_seq (Tk_region (Tops_step rfl (OpT_move rfl rfl rfl rfl) ?_)))
  refine Tops_step rfl (OpT_lenS rfl rfl rfl rfl Try.underlying45 (i := 1) rfl) ?_
  refine Tops_step rfl (OpT_move rfl rfl rfl rfl) ?_
  refine Tops_nil (Tk_wkS (fr' := [(0, some (.pointer (some ⟨b_m, 0, none⟩))), (2, some (vwritten1)), (8, some (.slice none 0 0)), (26, some (vbufs1)), (27, some (vI (len bufs))), (28, some (vI (0 : Int)))]) (own' := [some (cellsR b_m 76 [vm1, vm2]), some (rowsX u8S true vm2 vsm1 m.b none)]) (shr' := [Fact.sl RegionS vm1 m.l, Fact.sl (Shape.slice SegS) vbufs1 bufs, Fact.sl u32S vwritten1 written]) [0, 2, 8, 26, 27, 28] [0, 1] [0, 1, 2] rfl rfl rfl rfl ?_)
  refine Tk_block (Tk_nilrow u8S ?_)
  refine Tk_loopS (σ := (List UInt8) × Int × Value) [0, 2, 8, 26, 27, 28] [0, 1, 2] [0, 2, 1] (fun s => ⟨[(0, some (.pointer (some ⟨b_m, 0, none⟩))), (2, some (vwritten1)), (8, some (s.2.2)), (26, some (vbufs1)), (27, some (vI (len bufs))), (28, some (vI s.2.1))], [some (cellsR b_m 76 [vm1, vm2]), some (rowsX u8S true vm2 vsm1 m.b none), some (rowS u8S s.2.2 s.1)], [Fact.sl RegionS vm1 m.l, Fact.sl u32S vwritten1 written, Fact.sl (Shape.slice SegS) vbufs1 bufs]⟩) (fun nf1 s => cons_JoinL1 m bufs written nf1 s.1 s.2.1 = some r) fuel ([], (0 : Int), (.slice none 0 0)) h rfl rfl rfl rfl rfl (fun s h => by cases h) ?_
  rintro nf1 ⟨out1, x1, v1⟩ h
  replace h : cons_JoinL1B m bufs written (cons_JoinL1 m bufs written nf1) out1 x1 = some r := h
  unfold cons_JoinL1B at h
  refine Tk_seq (Tk_region (Tops_step rfl (OpT_bin rfl rfl rfl rfl rfl (bin_lss_i (a := x1) (b := len bufs))) ?_))
  refine Tops_nil (Tk_seq ?_)
  rcases Bool.eq_false_or_eq_true (decide (x1 < (len bufs))) with hg2 | hg2
  ·replace h := br_t hg2 h
   refine Tk_condT (congrArg (fun b => some (Value.bool b)) hg2) ?_
   refine Tk_skip (Tk_seq (Tk_block (Tk_seq (Tk_region (Tops_step rfl (OpT_move rfl rfl rfl rfl) ?_)))))
   obtain ⟨y1, hx1, h⟩ := ob_e h
   refine Tops_ex rfl (OpT_idxS rfl rfl rfl rfl rfl slF45 (i := 2) rfl hx1) fun p1 => ?_
   refine Tops_ex rfl (OpT_loadPS rfl rfl rfl rfl tyF49 (i := 3) rfl) fun v2 => ?_
   refine Tops_step rfl (OpT_assign rfl rfl rfl rfl) ?_
   refine Tops_step rfl (OpT_assign rfl rfl rfl rfl) ?_
   refine Tops_nil (Tk_wkS (fr' := [(0, some (.pointer (some ⟨b_m, 0, none⟩))), (2, some (vwritten1)), (8, some (v1)), (26, some (vbufs1)), (27, some (vI (len bufs))), (28, some (vI x1)), (9, some (vI x1)), (10, some (v2))]) (own' := [some (cellsR b_m 76 [vm1, vm2]), some (rowsX u8S true vm2 vsm1 m.b none), some (rowS u8S v1 out1)]) (shr' := [Fact.sl RegionS vm1 m.l, Fact.sl u32S vwritten1 written, Fact.sl (Shape.slice SegS) vbufs1 bufs, Fact.sl SegS v2 y1]) [0, 2, 8, 26, 27, 28, 9, 10] [0, 1, 2] [0, 1, 2, 4] rfl rfl rfl rfl ?_)
   refine Tk_seq (Tk_seq (Tk_region (Tops_step rfl (OpT_move rfl rfl rfl rfl) ?_)))
   refine Tops_step rfl (OpT_move rfl rfl rfl rfl) ?_
   obtain ⟨in1, hx2, h⟩ := ob_e h
   refine Tops_exP rfl (OpT_callP [3, 4, 2] (w_seg_In hx2) [0, 1] [0, 3] rfl rfl rfl rfl rfl callee32 rfl rfl rfl rfl rfl) ?_
   rintro _ ⟨_, _, _, ⟨rfl, rfl, rfl⟩, rfl⟩
   refine Tops_step rfl (OpT_assign rfl rfl rfl rfl) ?_
   refine Tops_nil (Tk_wkS (fr' := [(0, some (.pointer (some ⟨b_m, 0, none⟩))), (2, some (vwritten1)), (8, some (v1)), (26, some (vbufs1)), (27, some (vI (len bufs))), (28, some (vI x1)), (9, some (vI x1)), (10, some (v2)), (11, some (vI in1))]) (own' := [some (cellsR b_m 76 [vm1, vm2]), some (rowsX u8S true vm2 vsm1 m.b none), some (rowS u8S v1 out1)]) (shr' := [Fact.sl RegionS vm1 m.l, Fact.sl u32S vwritten1 written, Fact.sl (Shape.slice SegS) vbufs1 bufs, Fact.sl SegS v2 y1]) [0, 2, 8, 26, 27, 28, 9, 10, 11] [0, 1, 2] [0, 1, 2, 3] rfl rfl rfl rfl ?_)
   refine Tk_seq (Tk_region (Tops_step rfl (OpT_move rfl rfl rfl rfl) ?_))
   refine Tops_step rfl (OpT_bin rfl rfl rfl rfl rfl (bin_neq_i (a := in1) (b := (0 : Int)))) ?_
   refine Tops_nil (Tk_wkS (fr' := [(0, some (.pointer (some ⟨b_m, 0, none⟩))), (2, some (vwritten1)), (8, some (v1)), (26, some (vbufs1)), (27, some (vI (len bufs))), (28, some (vI x1)), (9, some (vI x1)), (10, some (v2)), (11, some (vI in1)), (37, some (vB (in1 != (0 : Int))))]) (own' := [some (cellsR b_m 76 [vm1, vm2]), some (rowsX u8S true vm2 vsm1 m.b none), some (rowS u8S v1 out1)]) (shr' := [Fact.sl RegionS vm1 m.l, Fact.sl u32S vwritten1 written, Fact.sl (Shape.slice SegS) vbufs1 bufs, Fact.sl SegS v2 y1]) [0, 2, 8, 26, 27, 28, 9, 10, 11, 37] [0, 1, 2] [0, 1, 2, 3] rfl rfl rfl rfl ?_)
   rcases Bool.eq_false_or_eq_true (in1 != (0 : Int)) with hg3 | hg3
   ·replace h := br_t hg3 h
    refine Tk_condT (congrArg (fun b => some (Value.bool b)) hg3) ?_
    refine Tk_seq (Tk_region (Tops_step rfl (OpT_move rfl rfl rfl rfl) ?_))
    refine Tops_step rfl (OpT_assign rfl rfl rfl rfl) ?_
    refine Tops_step rfl (OpT_assign rfl rfl rfl rfl) ?_
    refine Tops_nil (Tk_wkS (fr' := [(6, some (.slice none 0 0)), (7, some (vI in1))]) (own' := [some (cellsR b_m 76 [vm1, vm2]), some (rowsX u8S true vm2 vsm1 m.b none)]) (shr' := [Fact.sl RegionS vm1 m.l]) [6, 7] [0, 1] [0] rfl rfl rfl rfl ?_)
    refine Tk_nilrow u8S ?_
    obtain rfl := Option.some.inj h
    exact Tk_retV rfl rfl (resA (vs := [.slice none 0 0, vI in1]) rfl ⟨rfl, rfl, trivial⟩) [0, 1, 2] [] rfl rfl rfl ⟨(.slice none 0 0), rfl, rfl, rfl⟩
   ·replace h := br_f hg3 h
    refine Tk_condF (congrArg (fun b => some (Value.bool b)) hg3) ?_
    refine Tk_skip (Tk_seq (Tk_region (Tops_step rfl (OpT_move rfl rfl rfl rfl) ?_)))
    obtain ⟨part1, hx3, h⟩ := ob_e h
    refine Tops_exP rfl (OpT_call (w_seg_Part hx3) [] [3] rfl rfl rfl rfl rfl callee36 rfl rfl rfl rfl) ?_
    rintro _ ⟨v3, _, _, ⟨_, rfl, rfl, rfl⟩, rfl⟩
    refine Tops_step rfl (OpT_assign rfl rfl rfl rfl) ?_
    refine Tops_nil (Tk_wkS (fr' := [(0, some (.pointer (some ⟨b_m, 0, none⟩))), (2, some (vwritten1)), (8, some (v1)), (26, some (vbufs1)), (27, some (vI (len bufs))), (28, some (vI x1)), (9, some (vI x1)), (12, some (v3))]) (own' := [some (cellsR b_m 76 [vm1, vm2]), some (rowsX u8S true vm2 vsm1 m.b none), some (rowS u8S v1 out1), some (rowS SegS v3 part1)]) (shr' := [Fact.sl RegionS vm1 m.l, Fact.sl u32S vwritten1 written, Fact.sl (Shape.slice SegS) vbufs1 bufs]) [0, 2, 8, 26, 27, 28, 9, 12] [0, 1, 2, 3] [0, 1, 2] rfl rfl rfl rfl ?_)
    refine Tk_seq (Tk_region (Tops_step rfl (OpT_move rfl rfl rfl rfl) ?_))
    refine Tops_step rfl (OpT_move rfl rfl rfl rfl) ?_
    obtain ⟨y2, hx4, h⟩ := ob_e h
    refine Tops_ex rfl (OpT_idxS rfl rfl rfl rfl rfl slF41 (i := 1) rfl hx4) fun p2 => ?_
    refine Tops_step rfl (OpT_loadP rfl rfl rfl rfl tyF50 (i := 3) rfl rfl) ?_
    refine Tops_step rfl (OpT_cnv rfl rfl rfl rfl (cnv_u32_u64 (n := y2) Try.underlying50 Try.underlying38)) ?_
    refine Tops_step rfl (OpT_assign rfl rfl rfl rfl) ?_
    refine Tops_nil (Tk_wkS (fr' := [(0, some (.pointer (some ⟨b_m, 0, none⟩))), (2, some (vwritten1)), (8, some (v1)), (26, some (vbufs1)), (27, some (vI (len bufs))), (28, some (vI x1)), (12, some (v3)), (13, some (vU64 y2.toUInt64))]) (own' := [some (cellsR b_m 76 [vm1, vm2]), some (rowsX u8S true vm2 vsm1 m.b none), some (rowS u8S v1 out1), some (rowS SegS v3 part1)]) (shr' := [Fact.sl RegionS vm1 m.l, Fact.sl u32S vwritten1 written, Fact.sl (Shape.slice SegS) vbufs1 bufs]) [0, 2, 8, 26, 27, 28, 12, 13] [0, 1, 2, 3] [0, 1, 2] rfl rfl rfl rfl ?_)
    refine Tk_seq (Tk_seq (Tk_region (Tops_step rfl (OpT_move rfl rfl rfl rfl) ?_)))
    obtain ⟨total1, hx5, h⟩ := ob_e h
    refine Tops_exP rfl (OpT_callB [3] [0, 1, 2, 3] (w_seg_Total hx5) [] rfl rfl rfl rfl rfl callee31 rfl rfl rfl rfl rfl rfl (bor_cons (bor_row 3 rfl rfl) bor_nil) (by rintro _ _ _ ⟨rfl, rfl, rfl⟩; exact ⟨rfl, ri_nil⟩)) ?_
    rintro _ ⟨_, _, _, ⟨rfl, rfl, rfl⟩, rfl⟩
    refine Tops_step rfl (OpT_move rfl rfl rfl rfl) ?_
    refine Tops_step rfl (OpT_extract rfl rfl rfl rfl rfl) ?_
    refine Tops_step rfl (OpT_extract rfl rfl rfl rfl rfl) ?_
    refine Tops_step rfl (OpT_assign rfl rfl rfl rfl) ?_
    refine Tops_step rfl (OpT_assign rfl rfl rfl rfl) ?_
    refine Tops_nil (Tk_wkS (fr' := [(0, some (.pointer (some ⟨b_m, 0, none⟩))), (2, some (vwritten1)), (8, some (v1)), (26, some (vbufs1)), (27, some (vI (len bufs))), (28, some (vI x1)), (12, some (v3)), (13, some (vU64 y2.toUInt64)), (15, some (vU64 total1.2))]) (own' := [some (cellsR b_m 76 [vm1, vm2]), some (rowsX u8S true vm2 vsm1 m.b none), some (rowS u8S v1 out1), some (rowS SegS v3 part1)]) (shr' := [Fact.sl RegionS vm1 m.l, Fact.sl u32S vwritten1 written, Fact.sl (Shape.slice SegS) vbufs1 bufs]) [0, 2, 8, 26, 27, 28, 12, 13, 15] [0, 1, 2, 3] [0, 1, 2] rfl rfl rfl rfl ?_)
    refine Tk_seq (Tk_region (Tops_step rfl (OpT_move rfl rfl rfl rfl) ?_))
    refine Tops_step rfl (OpT_move rfl rfl rfl rfl) ?_
    refine Tops_step rfl (OpT_bin rfl rfl rfl rfl rfl (bin_gtr_u64 (a := y2.toUInt64) (b := total1.2))) ?_
    refine Tops_nil (Tk_wkS (fr' := [(0, some (.pointer (some ⟨b_m, 0, none⟩))), (2, some (vwritten1)), (8, some (v1)), (26, some (vbufs1)), (27, some (vI (len bufs))), (28, some (vI x1)), (12, some (v3)), (13, some (vU64 y2.toUInt64)), (53, some (vB (decide (y2.toUInt64 > total1.2))))]) (own' := [some (cellsR b_m 76 [vm1, vm2]), some (rowsX u8S true vm2 vsm1 m.b none), some (rowS u8S v1 out1), some (rowS SegS v3 part1)]) (shr' := [Fact.sl RegionS vm1 m.l, Fact.sl u32S vwritten1 written, Fact.sl (Shape.slice SegS) vbufs1 bufs]) [0, 2, 8, 26, 27, 28, 12, 13, 53] [0, 1, 2, 3] [0, 1, 2] rfl rfl rfl rfl ?_)
    rcases Bool.eq_false_or_eq_true (decide (y2.toUInt64 > total1.2)) with hg4 | hg4
    ·replace h := br_t hg4 h
     refine Tk_condT (congrArg (fun b => some (Value.bool b)) hg4) ?_
     refine Tk_seq (Tk_region (Tops_step rfl (OpT_assign rfl rfl rfl rfl) ?_))
     refine Tops_step rfl (OpT_assign rfl rfl rfl rfl) ?_
     refine Tops_nil (Tk_wkS (fr' := [(6, some (.slice none 0 0)), (7, some (vI (2 : Int)))]) (own' := [some (cellsR b_m 76 [vm1, vm2]), some (rowsX u8S true vm2 vsm1 m.b none)]) (shr' := [Fact.sl RegionS vm1 m.l]) [6, 7] [0, 1] [0] rfl rfl rfl rfl ?_)
     refine Tk_nilrow u8S ?_
     obtain rfl := Option.some.inj h
     exact Tk_retV rfl rfl (resA (vs := [.slice none 0 0, vI (2 : Int)]) rfl ⟨rfl, rfl, trivial⟩) [0, 1, 2] [] rfl rfl rfl ⟨(.slice none 0 0), rfl, rfl, rfl⟩
    ·replace h := br_f hg4 h
     refine Tk_condF (congrArg (fun b => some (Value.bool b)) hg4) ?_
     refine Tk_skip (Tk_seq (Tk_seq (Tk_region (Tops_step rfl (OpT_move rfl rfl rfl rfl) ?_))))
     refine Tops_step rfl (OpT_lenO rfl rfl rfl rfl Try.underlying49 (i := 3) rfl) ?_
     refine Tops_step rfl (OpT_move rfl rfl rfl rfl) ?_
     refine Tops_nil (Tk_wkS (fr' := [(0, some (.pointer (some ⟨b_m, 0, none⟩))), (2, some (vwritten1)), (8, some (v1)), (26, some (vbufs1)), (27, some (vI (len bufs))), (28, some (vI x1)), (12, some (v3)), (13, some (vU64 y2.toUInt64)), (55, some (vI (len part1))), (56, some (vI (0 : Int)))]) (own' := [some (cellsR b_m 76 [vm1, vm2]), some (rowsX u8S true vm2 vsm1 m.b none), some (rowS u8S v1 out1), some (rowS SegS v3 part1)]) (shr' := [Fact.sl RegionS vm1 m.l, Fact.sl u32S vwritten1 written, Fact.sl (Shape.slice SegS) vbufs1 bufs]) [0, 2, 8, 26, 27, 28, 12, 13, 55, 56] [0, 1, 2, 3] [0, 1, 2] rfl rfl rfl rfl ?_)
     refine Tk_block (Tk_loopS (σ := (List UInt8) × (List Seg) × Int × Value × Value) [0, 2, 8, 26, 27, 28, 12, 13, 55, 56] [0, 1, 2, 3] [0, 1, 2] (fun s => ⟨[(0, some (.pointer (some ⟨b_m, 0, none⟩))), (2, some (vwritten1)), (8, some (s.2.2.2.1)), (26, some (vbufs1)), (27, some (vI (len bufs))), (28, some (vI x1)), (12, some (s.2.2.2.2)), (13, some (vU64 y2.toUInt64)), (55, some (vI (len part1))), (56, some (vI s.2.2.1))], [some (cellsR b_m 76 [vm1, vm2]), some (rowsX u8S true vm2 vsm1 m.b none), some (rowS u8S s.2.2.2.1 s.1), some (rowS SegS s.2.2.2.2 s.2.1)], [Fact.sl RegionS vm1 m.l, Fact.sl u32S vwritten1 written, Fact.sl (Shape.slice SegS) vbufs1 bufs]⟩) (fun nf2 s => cons_JoinL2 m x1 (cons_JoinL1 m bufs written nf1) part1 y2 nf2 s.1 s.2.1 s.2.2.1 = some r) fuel (out1, part1, (0 : Int), v1, v3) h rfl rfl rfl rfl rfl (fun s h => by cases h) ?_)
     rintro nf2 ⟨l1, l2, x2, v4, v5⟩ h
     replace h : cons_JoinL2B m x1 (cons_JoinL1 m bufs written nf1) part1 y2 (cons_JoinL2 m x1 (cons_JoinL1 m bufs written nf1) part1 y2 nf2) l1 l2 x2 = some r := h
     unfold cons_JoinL2B at h
     refine Tk_seq (Tk_region (Tops_step rfl (OpT_bin rfl rfl rfl rfl rfl (bin_lss_i (a := x2) (b := len part1))) ?_))
     refine Tops_nil (Tk_seq ?_)
     rcases Bool.eq_false_or_eq_true (decide (x2 < (len part1))) with hg5 | hg5
     ·replace h := br_t hg5 h
      refine Tk_condT (congrArg (fun b => some (Value.bool b)) hg5) ?_
      refine Tk_skip (Tk_seq (Tk_block (Tk_seq (Tk_region (Tops_step rfl (OpT_move rfl rfl rfl rfl) ?_)))))
      refine Tops_step rfl (OpT_assign rfl rfl rfl rfl) ?_
      refine Tops_nil (Tk_wkS (fr' := [(0, some (.pointer (some ⟨b_m, 0, none⟩))), (2, some (vwritten1)), (8, some (v4)), (26, some (vbufs1)), (27, some (vI (len bufs))), (28, some (vI x1)), (12, some (v5)), (13, some (vU64 y2.toUInt64)), (55, some (vI (len part1))), (56, some (vI x2)), (16, some (vI x2))]) (own' := [some (cellsR b_m 76 [vm1, vm2]), some (rowsX u8S true vm2 vsm1 m.b none), some (rowS u8S v4 l1), some (rowS SegS v5 l2)]) (shr' := [Fact.sl RegionS vm1 m.l, Fact.sl u32S vwritten1 written, Fact.sl (Shape.slice SegS) vbufs1 bufs]) [0, 2, 8, 26, 27, 28, 12, 13, 55, 56, 16] [0, 1, 2, 3] [0, 1, 2] rfl rfl rfl rfl ?_)
      refine Tk_region (Tops_step rfl (OpT_move rfl rfl rfl rfl) ?_)
      refine Tops_step rfl (OpT_move rfl rfl rfl rfl) ?_
      obtain ⟨s1, hx6, h⟩ := ob_e h
      refine Tops_step rfl (OpT_idxO rfl rfl rfl rfl rfl slF49 (i := 3) rfl hx6) ?_
      refine Tops_step rfl (OpT_fieldR (S := SegS) rfl rfl rfl rfl fldF81x2 (i := 3) rfl hx6) ?_
      refine Tops_step rfl (OpT_storeOF (S := SegS) (u := (Seg.mk s1.At s1.Len false)) rfl rfl rfl rfl rfl tyF4 (i := 3) rfl hx6 rfl rfl rfl) ?_
      refine Tops_nil (Tk_wkS (fr' := [(0, some (.pointer (some ⟨b_m, 0, none⟩))), (2, some (vwritten1)), (8, some (v4)), (26, some (vbufs1)), (27, some (vI (len bufs))), (28, some (vI x1)), (12, some (v5)), (13, some (vU64 y2.toUInt64)), (55, some (vI (len part1))), (56, some (vI x2))]) (own' := [some (cellsR b_m 76 [vm1, vm2]), some (rowsX u8S true vm2 vsm1 m.b none), some (rowS u8S v4 l1), some (rowS SegS v5 (l2.set x2.toNat (Seg.mk s1.At s1.Len false)))]) (shr' := [Fact.sl RegionS vm1 m.l, Fact.sl u32S vwritten1 written, Fact.sl (Shape.slice SegS) vbufs1 bufs]) [0, 2, 8, 26, 27, 28, 12, 13, 55, 56] [0, 1, 2, 3] [0, 1, 2] rfl rfl rfl rfl ?_)
      refine Tk_blk (Tk_region (Tops_step rfl (OpT_bin rfl rfl rfl rfl rfl (bin_add_i (a := x2) (b := (1 : Int)))) ?_))
      refine Tops_step rfl (OpT_move rfl rfl rfl rfl) ?_
      refine Tops_nil (Tk_wkS (fr' := [(0, some (.pointer (some ⟨b_m, 0, none⟩))), (2, some (vwritten1)), (8, some (v4)), (26, some (vbufs1)), (27, some (vI (len bufs))), (28, some (vI x1)), (12, some (v5)), (13, some (vU64 y2.toUInt64)), (55, some (vI (len part1))), (56, some (vI (wi (x2 + (1 : Int)))))]) (own' := [some (cellsR b_m 76 [vm1, vm2]), some (rowsX u8S true vm2 vsm1 m.b none), some (rowS u8S v4 l1), some (rowS SegS v5 (l2.set x2.toNat (Seg.mk s1.At s1.Len false)))]) (shr' := [Fact.sl RegionS vm1 m.l, Fact.sl u32S vwritten1 written, Fact.sl (Shape.slice SegS) vbufs1 bufs]) [0, 2, 8, 26, 27, 28, 12, 13, 55, 56] [0, 1, 2, 3] [0, 1, 2] rfl rfl rfl rfl ?_)
      exact Tk_backS (l1, l2.set x2.toNat (Seg.mk s1.At s1.Len false), wi (x2 + (1 : Int)), v4, v5) h [0, 2, 8, 26, 27, 28, 12, 13, 55, 56] [0, 1, 2, 3] [0, 1, 2] rfl rfl rfl rfl rfl
     ·replace h := br_f hg5 h
      refine Tk_condF (congrArg (fun b => some (Value.bool b)) hg5) ?_
      refine Tk_exit _ rfl ?_
      refine Tk_seq (Tk_region (Tops_step rfl (OpT_move rfl rfl rfl rfl) ?_))
      refine Tops_step rfl (OpT_move rfl rfl rfl rfl) ?_
      refine Tops_step rfl (OpT_move rfl rfl rfl rfl) ?_
      obtain ⟨cut1, hx7, h⟩ := ob_e h
      refine Tops_exP rfl (OpT_callB [3] [0, 1, 2, 3, 4] (w_seg_Cut hx7) [] rfl rfl rfl rfl rfl callee38 rfl rfl rfl rfl rfl rfl (bor_cons (bor_row 3 rfl rfl) bor_nil) (by rintro _ _ _ ⟨_, rfl, rfl, rfl⟩; exact ⟨rfl, (ri_cons (ri_row (S := SegS) rfl _ _) ri_nil)⟩)) ?_
      rintro _ ⟨v6, _, _, ⟨_, rfl, rfl, rfl⟩, rfl⟩
      obtain ⟨gather1, hx8, h⟩ := ob_e h
      refine Tops_exP rfl (OpT_callB [4] [5, 6, 2, 3, 4, 7] (w_seg_Gather hx8) [0, 1] rfl rfl rfl rfl rfl callee37 rfl rfl rfl rfl rfl rfl (bor_cons (bor_shr 0 rfl) (bor_cons (bor_row 4 rfl rfl) bor_nil)) (by rintro _ _ _ ⟨_, rfl, rfl, rfl⟩; exact ⟨rfl, (ri_cons (ri_cells _ _ _) (ri_cons (ri_rows rfl _ _ _ _ _) (ri_cons (ri_row (S := u8S) rfl _ _) ri_nil)))⟩)) ?_
      rintro _ ⟨_, _, _, ⟨v7, rfl, rfl, rfl⟩, rfl⟩
      refine Tops_step rfl (OpT_move rfl rfl rfl rfl) ?_
      refine Tops_step rfl (OpT_extract rfl rfl rfl rfl rfl) ?_
      refine Tops_step rfl (OpT_extract rfl rfl rfl rfl rfl) ?_
      refine Tops_step rfl (OpT_assign rfl rfl rfl rfl) ?_
      refine Tops_step rfl (OpT_assign rfl rfl rfl rfl) ?_
      refine Tops_nil (Tk_wkS (fr' := [(0, some (.pointer (some ⟨b_m, 0, none⟩))), (2, some (vwritten1)), (8, some (v4)), (26, some (vbufs1)), (27, some (vI (len bufs))), (28, some (vI x1)), (17, some (v7)), (18, some (vI gather1.2))]) (own' := [some (cellsR b_m 76 [vm1, vm2]), some (rowsX u8S true vm2 vsm1 m.b none), some (rowS u8S v4 l1), some (rowS u8S v7 gather1.1)]) (shr' := [Fact.sl RegionS vm1 m.l, Fact.sl u32S vwritten1 written, Fact.sl (Shape.slice SegS) vbufs1 bufs]) [0, 2, 8, 26, 27, 28, 17, 18] [0, 1, 2, 5] [0, 1, 2] rfl rfl rfl rfl ?_)
      refine Tk_seq (Tk_seq (Tk_region (Tops_step rfl (OpT_move rfl rfl rfl rfl) ?_)))
      refine Tops_step rfl (OpT_bin rfl rfl rfl rfl rfl (bin_neq_i (a := gather1.2) (b := (0 : Int)))) ?_
      refine Tops_nil (Tk_wkS (fr' := [(0, some (.pointer (some ⟨b_m, 0, none⟩))), (2, some (vwritten1)), (8, some (v4)), (26, some (vbufs1)), (27, some (vI (len bufs))), (28, some (vI x1)), (17, some (v7)), (18, some (vI gather1.2)), (73, some (vB (gather1.2 != (0 : Int))))]) (own' := [some (cellsR b_m 76 [vm1, vm2]), some (rowsX u8S true vm2 vsm1 m.b none), some (rowS u8S v4 l1), some (rowS u8S v7 gather1.1)]) (shr' := [Fact.sl RegionS vm1 m.l, Fact.sl u32S vwritten1 written, Fact.sl (Shape.slice SegS) vbufs1 bufs]) [0, 2, 8, 26, 27, 28, 17, 18, 73] [0, 1, 2, 3] [0, 1, 2] rfl rfl rfl rfl ?_)
      rcases Bool.eq_false_or_eq_true (gather1.2 != (0 : Int)) with hg6 | hg6
      ·replace h := br_t hg6 h
       refine Tk_condT (congrArg (fun b => some (Value.bool b)) hg6) ?_
       refine Tk_seq (Tk_region (Tops_step rfl (OpT_move rfl rfl rfl rfl) ?_))
       refine Tops_step rfl (OpT_assign rfl rfl rfl rfl) ?_
       refine Tops_step rfl (OpT_assign rfl rfl rfl rfl) ?_
       refine Tops_nil (Tk_wkS (fr' := [(6, some (.slice none 0 0)), (7, some (vI gather1.2))]) (own' := [some (cellsR b_m 76 [vm1, vm2]), some (rowsX u8S true vm2 vsm1 m.b none)]) (shr' := [Fact.sl RegionS vm1 m.l]) [6, 7] [0, 1] [0] rfl rfl rfl rfl ?_)
       refine Tk_nilrow u8S ?_
       obtain rfl := Option.some.inj h
       exact Tk_retV rfl rfl (resA (vs := [.slice none 0 0, vI gather1.2]) rfl ⟨rfl, rfl, trivial⟩) [0, 1, 2] [] rfl rfl rfl ⟨(.slice none 0 0), rfl, rfl, rfl⟩
      ·replace h := br_f hg6 h
       refine Tk_condF (congrArg (fun b => some (Value.bool b)) hg6) ?_
       refine Tk_skip (Tk_region (Tops_step rfl (OpT_move rfl rfl rfl rfl) ?_))
       refine Tops_step rfl (OpT_move rfl rfl rfl rfl) ?_
       obtain ⟨hc1, h⟩ := chk_e h
       refine Tops_ex rfl (OpT_appendB (S := u8S) rfl rfl rfl rfl rfl rfl slF30 (i := 2) (j := 3) rfl rfl hc1) fun v8 => ?_
       refine Tops_step rfl (OpT_assign rfl rfl rfl rfl) ?_
       refine Tops_nil (Tk_wkS (fr' := [(0, some (.pointer (some ⟨b_m, 0, none⟩))), (2, some (vwritten1)), (8, some (v8)), (26, some (vbufs1)), (27, some (vI (len bufs))), (28, some (vI x1))]) (own' := [some (cellsR b_m 76 [vm1, vm2]), some (rowsX u8S true vm2 vsm1 m.b none), some (rowS u8S v8 (l1 ++ gather1.1))]) (shr' := [Fact.sl RegionS vm1 m.l, Fact.sl u32S vwritten1 written, Fact.sl (Shape.slice SegS) vbufs1 bufs]) [0, 2, 8, 26, 27, 28] [0, 1, 2] [0, 1, 2] rfl rfl rfl rfl ?_)
       refine Tk_blk (Tk_region (Tops_step rfl (OpT_bin rfl rfl rfl rfl rfl (bin_add_i (a := x1) (b := (1 : Int)))) ?_))
       refine Tops_step rfl (OpT_move rfl rfl rfl rfl) ?_
       refine Tops_nil (Tk_wkS (fr' := [(0, some (.pointer (some ⟨b_m, 0, none⟩))), (2, some (vwritten1)), (8, some (v8)), (26, some (vbufs1)), (27, some (vI (len bufs))), (28, some (vI (wi (x1 + (1 : Int)))))]) (own' := [some (cellsR b_m 76 [vm1, vm2]), some (rowsX u8S true vm2 vsm1 m.b none), some (rowS u8S v8 (l1 ++ gather1.1))]) (shr' := [Fact.sl RegionS vm1 m.l, Fact.sl u32S vwritten1 written, Fact.sl (Shape.slice SegS) vbufs1 bufs]) [0, 2, 8, 26, 27, 28] [0, 1, 2] [0, 1, 2] rfl rfl rfl rfl ?_)
       exact Tk_backS (l1 ++ gather1.1, wi (x1 + (1 : Int)), v8) h [0, 2, 8, 26, 27, 28] [0, 1, 2] [0, 1, 2] rfl rfl rfl rfl rfl
  ·replace h := br_f hg2 h
   refine Tk_condF (congrArg (fun b => some (Value.bool b)) hg2) ?_
   refine Tk_exit _ rfl ?_
   refine Tk_seq (Tk_region (Tops_step rfl (OpT_move rfl rfl rfl rfl) ?_))
   refine Tops_step rfl (OpT_assign rfl rfl rfl rfl) ?_
   refine Tops_step rfl (OpT_assign rfl rfl rfl rfl) ?_
   refine Tops_nil (Tk_wkS (fr' := [(6, some (v1)), (7, some (vI (0 : Int)))]) (own' := [some (cellsR b_m 76 [vm1, vm2]), some (rowsX u8S true vm2 vsm1 m.b none), some (rowS u8S v1 out1)]) (shr' := [Fact.sl RegionS vm1 m.l]) [6, 7] [0, 1, 2] [0] rfl rfl rfl rfl ?_)
   obtain rfl := Option.some.inj h
   exact Tk_retV rfl rfl (resA (vs := [v1, vI (0 : Int)]) rfl ⟨rfl, rfl, trivial⟩) [0, 1, 2] [] rfl rfl rfl ⟨v1, rfl, rfl, rfl⟩

theorem ws_cons_Put {sp0 : Stream} {b : List UInt8} {vsp01 : Value} {vb1 : Value} {r : (Stream × Int)} (h : cons_Put sp0 b = some r) :
  Ctr Try.prog 21 #[.agg #[vsp01], vb1] [] [Fact.sl u8S vsp01 sp0.Wait, Fact.sl u8S vb1 b]
   (fun rv own shr => ∃ (w1 : Value), rv = .tuple #[.agg #[w1], vI r.2] ∧ own = [] ∧ shr = [Fact.sl u8S w1 r.1.Wait]) :=
 Ctr.sh (w_cons_Put h) (by rintro _ _ _ ⟨w1, rfl, rfl, rfl⟩; exact ⟨[], _, _, _, _, rfl, w1, rfl, rfl, rfl⟩)

end Go.Proofs.Ytkjmmbmlapmkbaa
