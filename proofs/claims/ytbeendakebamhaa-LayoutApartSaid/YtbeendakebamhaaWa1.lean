/- The functions do what the plain words say: each is walked once. No statement of the seat is proved here; no condition. -/
import Derived.Test.YtbeendakebamhaaMo1
import Derived.Test.YtbeendakebamhaaFc
namespace Go.Proofs.Ytbeendakebamhaa

set_option maxRecDepth 100000 in
set_option maxHeartbeats 4000000 in
theorem w_serial_isSize {np0 : Int} {r : Bool} (h : serial_isSize np0 = some r) :
  Ctr Try.prog 48 #[vI np0] [] []
   (fun rv own shr => rv = vB r ∧ own = [] ∧ shr = []) := by
 unfold serial_isSize at h
 refine Ctr.mk (args := [vI np0]) Try.func48 rfl rfl (fun R0 w0 B => ?_)
 refine Tk_seq (Tk_region (Tops_step rfl (OpT_assign rfl rfl rfl rfl) ?_))
 refine Tops_nil (Tk_wkS (fr' := [(0, some (vI np0))]) (own' := []) (shr' := []) [0] [] [] rfl rfl rfl rfl ?_)
 refine Tk_seq (Tk_region (Tops_step rfl (OpT_move rfl rfl rfl rfl) ?_))
 refine Tops_step rfl (OpT_bin rfl rfl rfl rfl rfl (bin_geq_i (a := np0) (b := (1 : Int)))) ?_
 refine Tops_step rfl (OpT_move rfl rfl rfl rfl) ?_
 rcases Bool.eq_false_or_eq_true (decide (np0 ≥ (1 : Int))) with hg1 | hg1
 ·replace h := br_t hg1 h
  refine Tops_yes rfl rfl (congrArg (fun b => some (Value.bool b)) hg1) (OpT_move rfl rfl rfl rfl) ?_
  rintro _ rfl
  refine Tops_yes rfl rfl (congrArg (fun b => some (Value.bool b)) hg1) (OpT_bin rfl rfl rfl rfl rfl (bin_leq_i (a := np0) (b := (32768 : Int)))) ?_
  rintro _ rfl
  refine Tops_step rfl (OpT_pickT rfl rfl rfl (congrArg (fun b => some (Value.bool b)) hg1) rfl) ?_
  refine Tops_step rfl (OpT_assign rfl rfl rfl rfl) ?_
  refine Tops_nil (Tk_wkS (fr' := [(2, some (vB (decide (np0 ≤ (32768 : Int)))))]) (own' := []) (shr' := []) [2] [] [] rfl rfl rfl rfl ?_)
  obtain rfl := Option.some.inj h
  exact Tk_retV rfl rfl (resA (vs := [vB (decide (np0 ≤ (32768 : Int)))]) rfl ⟨rfl, trivial⟩) [] [] rfl rfl rfl ⟨rfl, rfl, rfl⟩
 ·replace h := br_f hg1 h
  refine Tops_no rfl rfl (congrArg (fun b => some (Value.bool b)) hg1) rfl rfl ?_
  refine Tops_no rfl rfl (congrArg (fun b => some (Value.bool b)) hg1) rfl rfl ?_
  refine Tops_step rfl (OpT_pickF rfl rfl rfl (congrArg (fun b => some (Value.bool b)) hg1) rfl) ?_
  refine Tops_step rfl (OpT_assign rfl rfl rfl rfl) ?_
  refine Tops_nil (Tk_wkS (fr' := [(2, some (vB false))]) (own' := []) (shr' := []) [2] [] [] rfl rfl rfl rfl ?_)
  obtain rfl := Option.some.inj h
  exact Tk_retV rfl rfl (resA (vs := [vB false]) rfl ⟨rfl, trivial⟩) [] [] rfl rfl rfl ⟨rfl, rfl, rfl⟩

set_option maxRecDepth 100000 in
set_option maxHeartbeats 4000000 in
theorem w_serial_Power {np0 : Int} {r : Bool} (h : serial_Power np0 = some r) :
  Ctr Try.prog 42 #[vI np0] [] []
   (fun rv own shr => rv = vB r ∧ own = [] ∧ shr = []) := by
 unfold serial_Power at h
 refine Ctr.mk (args := [vI np0]) Try.func42 rfl rfl (fun R0 w0 B => ?_)
 refine Tk_seq (Tk_region (Tops_step rfl (OpT_assign rfl rfl rfl rfl) ?_))
 refine Tops_nil (Tk_wkS (fr' := [(0, some (vI np0))]) (own' := []) (shr' := []) [0] [] [] rfl rfl rfl rfl ?_)
 refine Tk_seq (Tk_region (Tops_step rfl (OpT_move rfl rfl rfl rfl) ?_))
 obtain ⟨issize1, hx1, h⟩ := ob_e h
 refine Tops_exP rfl (OpT_call (w_serial_isSize hx1) [] [] rfl rfl rfl rfl rfl callee48 rfl rfl rfl rfl) ?_
 rintro _ ⟨_, _, _, ⟨rfl, rfl, rfl⟩, rfl⟩
 refine Tops_step rfl (OpT_move rfl rfl rfl rfl) ?_
 rcases Bool.eq_false_or_eq_true (issize1) with hg1 | hg1
 ·replace h := br_t hg1 h
  refine Tops_yes rfl rfl (congrArg (fun b => some (Value.bool b)) hg1) (OpT_move rfl rfl rfl rfl) ?_
  rintro _ rfl
  refine Tops_yes rfl rfl (congrArg (fun b => some (Value.bool b)) hg1) (OpT_move rfl rfl rfl rfl) ?_
  rintro _ rfl
  refine Tops_yes rfl rfl (congrArg (fun b => some (Value.bool b)) hg1) (OpT_bin rfl rfl rfl rfl rfl (bin_sub_i (a := np0) (b := (1 : Int)))) ?_
  rintro _ rfl
  refine Tops_yes rfl rfl (congrArg (fun b => some (Value.bool b)) hg1) (OpT_bin rfl rfl rfl rfl rfl (bin_and_i (a := np0) (b := wi (np0 - (1 : Int))))) ?_
  rintro _ rfl
  refine Tops_yes rfl rfl (congrArg (fun b => some (Value.bool b)) hg1) (OpT_bin rfl rfl rfl rfl rfl (bin_eql_i (a := andi np0 (wi (np0 - (1 : Int)))) (b := (0 : Int)))) ?_
  rintro _ rfl
  refine Tops_step rfl (OpT_pickT rfl rfl rfl (congrArg (fun b => some (Value.bool b)) hg1) rfl) ?_
  refine Tops_step rfl (OpT_assign rfl rfl rfl rfl) ?_
  refine Tops_nil (Tk_wkS (fr' := [(2, some (vB ((andi np0 (wi (np0 - (1 : Int)))) == (0 : Int))))]) (own' := []) (shr' := []) [2] [] [] rfl rfl rfl rfl ?_)
  obtain rfl := Option.some.inj h
  exact Tk_retV rfl rfl (resA (vs := [vB ((andi np0 (wi (np0 - (1 : Int)))) == (0 : Int))]) rfl ⟨rfl, trivial⟩) [] [] rfl rfl rfl ⟨rfl, rfl, rfl⟩
 ·replace h := br_f hg1 h
  refine Tops_no rfl rfl (congrArg (fun b => some (Value.bool b)) hg1) rfl rfl ?_
  refine Tops_no rfl rfl (congrArg (fun b => some (Value.bool b)) hg1) rfl rfl ?_
  refine Tops_no rfl rfl (congrArg (fun b => some (Value.bool b)) hg1) rfl rfl ?_
  refine Tops_no rfl rfl (congrArg (fun b => some (Value.bool b)) hg1) rfl rfl ?_
  refine Tops_no rfl rfl (congrArg (fun b => some (Value.bool b)) hg1) rfl rfl ?_
  refine Tops_step rfl (OpT_pickF rfl rfl rfl (congrArg (fun b => some (Value.bool b)) hg1) rfl) ?_
  refine Tops_step rfl (OpT_assign rfl rfl rfl rfl) ?_
  refine Tops_nil (Tk_wkS (fr' := [(2, some (vB false))]) (own' := []) (shr' := []) [2] [] [] rfl rfl rfl rfl ?_)
  obtain rfl := Option.some.inj h
  exact Tk_retV rfl rfl (resA (vs := [vB false]) rfl ⟨rfl, trivial⟩) [] [] rfl rfl rfl ⟨rfl, rfl, rfl⟩

set_option maxRecDepth 100000 in
set_option maxHeartbeats 4000000 in
theorem w_layout_isSize {rp0 : Rings} {r : Bool} (h : layout_isSize rp0 = some r) :
  Ctr Try.prog 27 #[.agg #[vB rp0.Packed, vI rp0.Size, vU64 rp0.Desc, vU64 rp0.Driver, vU64 rp0.Device]] [] []
   (fun rv own shr => rv = vB r ∧ own = [] ∧ shr = []) := by
 unfold layout_isSize at h
 refine Ctr.mk (args := [.agg #[vB rp0.Packed, vI rp0.Size, vU64 rp0.Desc, vU64 rp0.Driver, vU64 rp0.Device]]) Try.func27 rfl rfl (fun R0 w0 B => ?_)
 refine Tk_seq (Tk_region (Tops_ex rfl (OpT_box rfl rfl rfl rfl) fun b1 => ?_))
 refine Tops_step rfl (OpT_assign rfl rfl rfl rfl) ?_
 refine Tops_nil (Tk_wkS (fr' := [(1, some (.pointer (some ⟨b1, 0, none⟩)))]) (own' := [some (cellsR b1 27 [vB rp0.Packed, vI rp0.Size, vU64 rp0.Desc, vU64 rp0.Driver, vU64 rp0.Device])]) (shr' := []) [1] [0] [] rfl rfl rfl rfl ?_)
 refine Tk_seq (Tk_seq (Tk_region (Tops_step rfl (OpT_fieldC rfl rfl rfl rfl fldF27x0) ?_)))
 refine Tops_step rfl (OpT_loadC rfl rfl rfl rfl tyF4 (i := 0) rfl rfl) ?_
 refine Tops_nil (Tk_wkS (fr' := [(1, some (.pointer (some ⟨b1, 0, none⟩))), (4, some (vB rp0.Packed))]) (own' := [some (cellsR b1 27 [vB rp0.Packed, vI rp0.Size, vU64 rp0.Desc, vU64 rp0.Driver, vU64 rp0.Device])]) (shr' := []) [1, 4] [0] [] rfl rfl rfl rfl ?_)
 rcases Bool.eq_false_or_eq_true (rp0.Packed) with hg1 | hg1
 ·replace h := br_t hg1 h
  refine Tk_condT (congrArg (fun b => some (Value.bool b)) hg1) ?_
  refine Tk_seq (Tk_region (Tops_step rfl (OpT_fieldC rfl rfl rfl rfl fldF27x1) ?_))
  refine Tops_step rfl (OpT_loadC rfl rfl rfl rfl tyF3 (i := 0) rfl rfl) ?_
  refine Tops_step rfl (OpT_bin rfl rfl rfl rfl rfl (bin_geq_i (a := rp0.Size) (b := (1 : Int)))) ?_
  refine Tops_step rfl (OpT_move rfl rfl rfl rfl) ?_
  rcases Bool.eq_false_or_eq_true (decide (rp0.Size ≥ (1 : Int))) with hg2 | hg2
  ·replace h := br_t hg2 h
   refine Tops_yes rfl rfl (congrArg (fun b => some (Value.bool b)) hg2) (OpT_fieldC rfl rfl rfl rfl fldF27x1) ?_
   rintro _ rfl
   refine Tops_yes rfl rfl (congrArg (fun b => some (Value.bool b)) hg2) (OpT_loadC rfl rfl rfl rfl tyF3 (i := 0) rfl rfl) ?_
   rintro _ rfl
   refine Tops_yes rfl rfl (congrArg (fun b => some (Value.bool b)) hg2) (OpT_bin rfl rfl rfl rfl rfl (bin_leq_i (a := rp0.Size) (b := (32768 : Int)))) ?_
   rintro _ rfl
   refine Tops_step rfl (OpT_pickT rfl rfl rfl (congrArg (fun b => some (Value.bool b)) hg2) rfl) ?_
   refine Tops_step rfl (OpT_assign rfl rfl rfl rfl) ?_
   refine Tops_nil (Tk_wkS (fr' := [(2, some (vB (decide (rp0.Size ≤ (32768 : Int)))))]) (own' := []) (shr' := []) [2] [] [] rfl rfl rfl rfl ?_)
   obtain rfl := Option.some.inj h
   exact Tk_retV rfl rfl (resA (vs := [vB (decide (rp0.Size ≤ (32768 : Int)))]) rfl ⟨rfl, trivial⟩) [] [] rfl rfl rfl ⟨rfl, rfl, rfl⟩
  ·replace h := br_f hg2 h
   refine Tops_no rfl rfl (congrArg (fun b => some (Value.bool b)) hg2) rfl rfl ?_
   refine Tops_no rfl rfl (congrArg (fun b => some (Value.bool b)) hg2) rfl rfl ?_
   refine Tops_no rfl rfl (congrArg (fun b => some (Value.bool b)) hg2) rfl rfl ?_
   refine Tops_step rfl (OpT_pickF rfl rfl rfl (congrArg (fun b => some (Value.bool b)) hg2) rfl) ?_
   refine Tops_step rfl (OpT_assign rfl rfl rfl rfl) ?_
   refine Tops_nil (Tk_wkS (fr' := [(2, some (vB false))]) (own' := []) (shr' := []) [2] [] [] rfl rfl rfl rfl ?_)
   obtain rfl := Option.some.inj h
   exact Tk_retV rfl rfl (resA (vs := [vB false]) rfl ⟨rfl, trivial⟩) [] [] rfl rfl rfl ⟨rfl, rfl, rfl⟩
 ·replace h := br_f hg1 h
  refine Tk_condF (congrArg (fun b => some (Value.bool b)) hg1) ?_
  refine Tk_skip (Tk_seq (Tk_region (Tops_step rfl (OpT_fieldC rfl rfl rfl rfl fldF27x1) ?_)))
  refine Tops_step rfl (OpT_loadC rfl rfl rfl rfl tyF3 (i := 0) rfl rfl) ?_
  obtain ⟨power1, hx1, h⟩ := ob_e h
  refine Tops_exP rfl (OpT_call (w_serial_Power hx1) [] [] rfl rfl rfl rfl rfl callee42 rfl rfl rfl rfl) ?_
  rintro _ ⟨_, _, _, ⟨rfl, rfl, rfl⟩, rfl⟩
  refine Tops_step rfl (OpT_assign rfl rfl rfl rfl) ?_
  refine Tops_nil (Tk_wkS (fr' := [(2, some (vB power1))]) (own' := []) (shr' := []) [2] [] [] rfl rfl rfl rfl ?_)
  obtain rfl := Option.some.inj h
  exact Tk_retV rfl rfl (resA (vs := [vB power1]) rfl ⟨rfl, trivial⟩) [] [] rfl rfl rfl ⟨rfl, rfl, rfl⟩

set_option maxRecDepth 100000 in
set_option maxHeartbeats 4000000 in
theorem w_layout_steps {rp0 : Rings} {r : (A3 UInt64)} (h : layout_steps rp0 = some r) :
  Ctr Try.prog 28 #[.agg #[vB rp0.Packed, vI rp0.Size, vU64 rp0.Desc, vU64 rp0.Driver, vU64 rp0.Device]] [] []
   (fun rv own shr => rv = .agg #[vU64 r.a0, vU64 r.a1, vU64 r.a2] ∧ own = [] ∧ shr = []) := by
 unfold layout_steps at h
 refine Ctr.mk (args := [.agg #[vB rp0.Packed, vI rp0.Size, vU64 rp0.Desc, vU64 rp0.Driver, vU64 rp0.Device]]) Try.func28 rfl rfl (fun R0 w0 B => ?_)
 refine Tk_seq (Tk_region (Tops_ex rfl (OpT_box rfl rfl rfl rfl) fun b1 => ?_))
 refine Tops_ex rfl (OpT_alloc rfl rfl rfl tyZ56) fun b2 => ?_
 refine Tops_nil (Tk_wkS (fr' := [(1, some (.pointer (some ⟨b1, 0, none⟩))), (2, some (.pointer (some ⟨b2, 0, none⟩)))]) (own' := [some (cellsR b1 27 [vB rp0.Packed, vI rp0.Size, vU64 rp0.Desc, vU64 rp0.Driver, vU64 rp0.Device]), some (cellsR b2 56 [vU64 (0 : UInt64), vU64 (0 : UInt64), vU64 (0 : UInt64)])]) (shr' := []) [1, 2] [0, 1] [] rfl rfl rfl rfl ?_)
 refine Tk_seq (Tk_seq (Tk_region (Tops_step rfl (OpT_fieldC rfl rfl rfl rfl fldF27x0) ?_)))
 refine Tops_step rfl (OpT_loadC rfl rfl rfl rfl tyF4 (i := 0) rfl rfl) ?_
 refine Tops_nil (Tk_wkS (fr' := [(2, some (.pointer (some ⟨b2, 0, none⟩))), (4, some (vB rp0.Packed))]) (own' := [some (cellsR b2 56 [vU64 (0 : UInt64), vU64 (0 : UInt64), vU64 (0 : UInt64)])]) (shr' := []) [2, 4] [1] [] rfl rfl rfl rfl ?_)
 rcases Bool.eq_false_or_eq_true (rp0.Packed) with hg1 | hg1
 ·replace h := br_t hg1 h
  refine Tk_condT (congrArg (fun b => some (Value.bool b)) hg1) ?_
  refine Tk_seq (Tk_region (Tops_step rfl (OpT_build (v := .agg #[vU64 (16 : UInt64), vU64 (4 : UInt64), vU64 (4 : UInt64)]) rfl rfl rfl rfl (bldV (by kernel_rfl))) ?_))
  refine Tops_step rfl (OpT_storeC (cs' := [vU64 (16 : UInt64), vU64 (4 : UInt64), vU64 (4 : UInt64)]) rfl rfl rfl rfl tyF56 (i := 0) rfl rfl rfl (one_of rfl) rfl) ?_
  refine Tops_nil (Tk_wkS (fr' := [(2, some (.pointer (some ⟨b2, 0, none⟩)))]) (own' := [some (cellsR b2 56 [vU64 (16 : UInt64), vU64 (4 : UInt64), vU64 (4 : UInt64)])]) (shr' := []) [2] [0] [] rfl rfl rfl rfl ?_)
  obtain rfl := Option.some.inj h
  exact Tk_retV rfl rfl (resA (vs := [.agg #[vU64 (16 : UInt64), vU64 (4 : UInt64), vU64 (4 : UInt64)]]) rfl ⟨⟨_, 0, _, _, _, rfl, rfl, .inl ⟨tyF56, rfl, rfl⟩⟩, trivial⟩) [] [] rfl rfl rfl ⟨rfl, rfl, rfl⟩
 ·replace h := br_f hg1 h
  refine Tk_condF (congrArg (fun b => some (Value.bool b)) hg1) ?_
  refine Tk_skip (Tk_seq (Tk_region (Tops_step rfl (OpT_build (v := .agg #[vU64 (16 : UInt64), vU64 (2 : UInt64), vU64 (4 : UInt64)]) rfl rfl rfl rfl (bldV (by kernel_rfl))) ?_)))
  refine Tops_step rfl (OpT_storeC (cs' := [vU64 (16 : UInt64), vU64 (2 : UInt64), vU64 (4 : UInt64)]) rfl rfl rfl rfl tyF56 (i := 0) rfl rfl rfl (one_of rfl) rfl) ?_
  refine Tops_nil (Tk_wkS (fr' := [(2, some (.pointer (some ⟨b2, 0, none⟩)))]) (own' := [some (cellsR b2 56 [vU64 (16 : UInt64), vU64 (2 : UInt64), vU64 (4 : UInt64)])]) (shr' := []) [2] [0] [] rfl rfl rfl rfl ?_)
  obtain rfl := Option.some.inj h
  exact Tk_retV rfl rfl (resA (vs := [.agg #[vU64 (16 : UInt64), vU64 (2 : UInt64), vU64 (4 : UInt64)]]) rfl ⟨⟨_, 0, _, _, _, rfl, rfl, .inl ⟨tyF56, rfl, rfl⟩⟩, trivial⟩) [] [] rfl rfl rfl ⟨rfl, rfl, rfl⟩

set_option maxRecDepth 100000 in
set_option maxHeartbeats 4000000 in
theorem w_layout_Parts {rp0 : Rings} {r : (UInt64 × UInt64 × UInt64)} (h : layout_Parts rp0 = some r) :
  Ctr Try.prog 11 #[.agg #[vB rp0.Packed, vI rp0.Size, vU64 rp0.Desc, vU64 rp0.Driver, vU64 rp0.Device]] [] []
   (fun rv own shr => rv = .tuple #[vU64 r.1, vU64 r.2.1, vU64 r.2.2] ∧ own = [] ∧ shr = []) := by
 unfold layout_Parts at h
 refine Ctr.mk (args := [.agg #[vB rp0.Packed, vI rp0.Size, vU64 rp0.Desc, vU64 rp0.Driver, vU64 rp0.Device]]) Try.func11 rfl rfl (fun R0 w0 B => ?_)
 refine Tk_seq (Tk_region (Tops_ex rfl (OpT_box rfl rfl rfl rfl) fun b1 => ?_))
 refine Tops_step rfl (OpT_assign rfl rfl rfl rfl) ?_
 refine Tops_step rfl (OpT_assign rfl rfl rfl rfl) ?_
 refine Tops_step rfl (OpT_assign rfl rfl rfl rfl) ?_
 refine Tops_nil (Tk_wkS (fr' := [(1, some (.pointer (some ⟨b1, 0, none⟩)))]) (own' := [some (cellsR b1 27 [vB rp0.Packed, vI rp0.Size, vU64 rp0.Desc, vU64 rp0.Driver, vU64 rp0.Device])]) (shr' := []) [1] [0] [] rfl rfl rfl rfl ?_)
 refine Tk_seq (Tk_seq (Tk_region (Tops_step rfl (OpT_loadCA (vs := [vB rp0.Packed, vI rp0.Size, vU64 rp0.Desc, vU64 rp0.Driver, vU64 rp0.Device]) rfl rfl rfl rfl tyF27 (i := 0) rfl rfl rfl) ?_)))
 obtain ⟨issize1, hx1, h⟩ := ob_e h
 refine Tops_exP rfl (OpT_call (w_layout_isSize hx1) [] [] rfl rfl rfl rfl rfl callee27 rfl rfl rfl rfl) ?_
 rintro _ ⟨_, _, _, ⟨rfl, rfl, rfl⟩, rfl⟩
 refine Tops_step rfl (OpT_not rfl rfl rfl rfl) ?_
 refine Tops_nil (Tk_wkS (fr' := [(1, some (.pointer (some ⟨b1, 0, none⟩))), (8, some (vB (!issize1)))]) (own' := [some (cellsR b1 27 [vB rp0.Packed, vI rp0.Size, vU64 rp0.Desc, vU64 rp0.Driver, vU64 rp0.Device])]) (shr' := []) [1, 8] [0] [] rfl rfl rfl rfl ?_)
 rcases Bool.eq_false_or_eq_true ((!issize1)) with hg1 | hg1
 ·replace h := br_t hg1 h
  refine Tk_condT (congrArg (fun b => some (Value.bool b)) hg1) ?_
  refine Tk_seq (Tk_region (Tops_step rfl (OpT_assign rfl rfl rfl rfl) ?_))
  refine Tops_step rfl (OpT_assign rfl rfl rfl rfl) ?_
  refine Tops_step rfl (OpT_assign rfl rfl rfl rfl) ?_
  refine Tops_nil (Tk_wkS (fr' := [(2, some (vU64 (0 : UInt64))), (3, some (vU64 (0 : UInt64))), (4, some (vU64 (0 : UInt64)))]) (own' := []) (shr' := []) [2, 3, 4] [] [] rfl rfl rfl rfl ?_)
  obtain rfl := Option.some.inj h
  exact Tk_retV rfl rfl (resA (vs := [vU64 (0 : UInt64), vU64 (0 : UInt64), vU64 (0 : UInt64)]) rfl ⟨rfl, rfl, rfl, trivial⟩) [] [] rfl rfl rfl ⟨rfl, rfl, rfl⟩
 ·replace h := br_f hg1 h
  refine Tk_condF (congrArg (fun b => some (Value.bool b)) hg1) ?_
  refine Tk_skip (Tk_seq (Tk_region (Tops_step rfl (OpT_fieldC rfl rfl rfl rfl fldF27x1) ?_)))
  refine Tops_step rfl (OpT_loadC rfl rfl rfl rfl tyF3 (i := 0) rfl rfl) ?_
  refine Tops_step rfl (OpT_cnv rfl rfl rfl rfl (cnv_i_u64 (n := rp0.Size) Try.underlying3 Try.underlying22)) ?_
  refine Tops_step rfl (OpT_assign rfl rfl rfl rfl) ?_
  refine Tops_nil (Tk_wkS (fr' := [(1, some (.pointer (some ⟨b1, 0, none⟩))), (5, some (vU64 (u64 rp0.Size)))]) (own' := [some (cellsR b1 27 [vB rp0.Packed, vI rp0.Size, vU64 rp0.Desc, vU64 rp0.Driver, vU64 rp0.Device])]) (shr' := []) [1, 5] [0] [] rfl rfl rfl rfl ?_)
  refine Tk_seq (Tk_seq (Tk_region (Tops_step rfl (OpT_fieldC rfl rfl rfl rfl fldF27x0) ?_)))
  refine Tops_step rfl (OpT_loadC rfl rfl rfl rfl tyF4 (i := 0) rfl rfl) ?_
  refine Tops_nil (Tk_wkS (fr' := [(5, some (vU64 (u64 rp0.Size))), (13, some (vB rp0.Packed))]) (own' := []) (shr' := []) [5, 13] [] [] rfl rfl rfl rfl ?_)
  rcases Bool.eq_false_or_eq_true (rp0.Packed) with hg2 | hg2
  ·replace h := br_t hg2 h
   refine Tk_condT (congrArg (fun b => some (Value.bool b)) hg2) ?_
   refine Tk_seq (Tk_region (Tops_step rfl (OpT_move rfl rfl rfl rfl) ?_))
   refine Tops_step rfl (OpT_bin rfl rfl rfl rfl rfl (bin_mul_u64 (a := (16 : UInt64)) (b := u64 rp0.Size))) ?_
   refine Tops_step rfl (OpT_assign rfl rfl rfl rfl) ?_
   refine Tops_step rfl (OpT_assign rfl rfl rfl rfl) ?_
   refine Tops_step rfl (OpT_assign rfl rfl rfl rfl) ?_
   refine Tops_nil (Tk_wkS (fr' := [(2, some (vU64 ((16 : UInt64) * (u64 rp0.Size)))), (3, some (vU64 (4 : UInt64))), (4, some (vU64 (4 : UInt64)))]) (own' := []) (shr' := []) [2, 3, 4] [] [] rfl rfl rfl rfl ?_)
   obtain rfl := Option.some.inj h
   exact Tk_retV rfl rfl (resA (vs := [vU64 ((16 : UInt64) * (u64 rp0.Size)), vU64 (4 : UInt64), vU64 (4 : UInt64)]) rfl ⟨rfl, rfl, rfl, trivial⟩) [] [] rfl rfl rfl ⟨rfl, rfl, rfl⟩
  ·replace h := br_f hg2 h
   refine Tk_condF (congrArg (fun b => some (Value.bool b)) hg2) ?_
   refine Tk_skip (Tk_seq (Tk_region (Tops_step rfl (OpT_move rfl rfl rfl rfl) ?_)))
   refine Tops_step rfl (OpT_bin rfl rfl rfl rfl rfl (bin_mul_u64 (a := (16 : UInt64)) (b := u64 rp0.Size))) ?_
   refine Tops_step rfl (OpT_move rfl rfl rfl rfl) ?_
   refine Tops_step rfl (OpT_bin rfl rfl rfl rfl rfl (bin_mul_u64 (a := (2 : UInt64)) (b := u64 rp0.Size))) ?_
   refine Tops_step rfl (OpT_bin rfl rfl rfl rfl rfl (bin_add_u64 (a := (6 : UInt64)) (b := (2 : UInt64) * (u64 rp0.Size)))) ?_
   refine Tops_step rfl (OpT_move rfl rfl rfl rfl) ?_
   refine Tops_step rfl (OpT_bin rfl rfl rfl rfl rfl (bin_mul_u64 (a := (8 : UInt64)) (b := u64 rp0.Size))) ?_
   refine Tops_step rfl (OpT_bin rfl rfl rfl rfl rfl (bin_add_u64 (a := (6 : UInt64)) (b := (8 : UInt64) * (u64 rp0.Size)))) ?_
   refine Tops_step rfl (OpT_assign rfl rfl rfl rfl) ?_
   refine Tops_step rfl (OpT_assign rfl rfl rfl rfl) ?_
   refine Tops_step rfl (OpT_assign rfl rfl rfl rfl) ?_
   refine Tops_nil (Tk_wkS (fr' := [(2, some (vU64 ((16 : UInt64) * (u64 rp0.Size)))), (3, some (vU64 ((6 : UInt64) + ((2 : UInt64) * (u64 rp0.Size))))), (4, some (vU64 ((6 : UInt64) + ((8 : UInt64) * (u64 rp0.Size)))))]) (own' := []) (shr' := []) [2, 3, 4] [] [] rfl rfl rfl rfl ?_)
   obtain rfl := Option.some.inj h
   exact Tk_retV rfl rfl (resA (vs := [vU64 ((16 : UInt64) * (u64 rp0.Size)), vU64 ((6 : UInt64) + ((2 : UInt64) * (u64 rp0.Size))), vU64 ((6 : UInt64) + ((8 : UInt64) * (u64 rp0.Size)))]) rfl ⟨rfl, rfl, rfl, trivial⟩) [] [] rfl rfl rfl ⟨rfl, rfl, rfl⟩

set_option maxRecDepth 100000 in
set_option maxHeartbeats 4000000 in
theorem w_layout_spans {rp0 : Rings} {r : (A3 (A2 UInt64))} (h : layout_spans rp0 = some r) :
  Ctr Try.prog 29 #[.agg #[vB rp0.Packed, vI rp0.Size, vU64 rp0.Desc, vU64 rp0.Driver, vU64 rp0.Device]] [] []
   (fun rv own shr => rv = .agg #[vU64 r.a0.a0, vU64 r.a0.a1, vU64 r.a1.a0, vU64 r.a1.a1, vU64 r.a2.a0, vU64 r.a2.a1] ∧ own = [] ∧ shr = []) := by
 unfold layout_spans at h
 refine Ctr.mk (args := [.agg #[vB rp0.Packed, vI rp0.Size, vU64 rp0.Desc, vU64 rp0.Driver, vU64 rp0.Device]]) Try.func29 rfl rfl (fun R0 w0 B => ?_)
 refine Tk_seq (Tk_region (Tops_ex rfl (OpT_box rfl rfl rfl rfl) fun b1 => ?_))
 refine Tops_ex rfl (OpT_alloc rfl rfl rfl tyZ59) fun b2 => ?_
 refine Tops_nil (Tk_wkS (fr' := [(1, some (.pointer (some ⟨b1, 0, none⟩))), (2, some (.pointer (some ⟨b2, 0, none⟩)))]) (own' := [some (cellsR b1 27 [vB rp0.Packed, vI rp0.Size, vU64 rp0.Desc, vU64 rp0.Driver, vU64 rp0.Device]), some (cellsR b2 59 [vU64 (0 : UInt64), vU64 (0 : UInt64), vU64 (0 : UInt64), vU64 (0 : UInt64), vU64 (0 : UInt64), vU64 (0 : UInt64)])]) (shr' := []) [1, 2] [0, 1] [] rfl rfl rfl rfl ?_)
 refine Tk_seq (Tk_region (Tops_step rfl (OpT_loadCA (vs := [vB rp0.Packed, vI rp0.Size, vU64 rp0.Desc, vU64 rp0.Driver, vU64 rp0.Device]) rfl rfl rfl rfl tyF27 (i := 0) rfl rfl rfl) ?_))
 obtain ⟨parts1, hx1, h⟩ := ob_e h
 refine Tops_exP rfl (OpT_call (w_layout_Parts hx1) [] [] rfl rfl rfl rfl rfl callee11 rfl rfl rfl rfl) ?_
 rintro _ ⟨_, _, _, ⟨rfl, rfl, rfl⟩, rfl⟩
 refine Tops_step rfl (OpT_move rfl rfl rfl rfl) ?_
 refine Tops_step rfl (OpT_extract rfl rfl rfl rfl rfl) ?_
 refine Tops_step rfl (OpT_extract rfl rfl rfl rfl rfl) ?_
 refine Tops_step rfl (OpT_extract rfl rfl rfl rfl rfl) ?_
 refine Tops_step rfl (OpT_assign rfl rfl rfl rfl) ?_
 refine Tops_step rfl (OpT_assign rfl rfl rfl rfl) ?_
 refine Tops_step rfl (OpT_assign rfl rfl rfl rfl) ?_
 refine Tops_nil (Tk_wkS (fr' := [(1, some (.pointer (some ⟨b1, 0, none⟩))), (2, some (.pointer (some ⟨b2, 0, none⟩))), (3, some (vU64 parts1.1)), (4, some (vU64 parts1.2.1)), (5, some (vU64 parts1.2.2))]) (own' := [some (cellsR b1 27 [vB rp0.Packed, vI rp0.Size, vU64 rp0.Desc, vU64 rp0.Driver, vU64 rp0.Device]), some (cellsR b2 59 [vU64 (0 : UInt64), vU64 (0 : UInt64), vU64 (0 : UInt64), vU64 (0 : UInt64), vU64 (0 : UInt64), vU64 (0 : UInt64)])]) (shr' := []) [1, 2, 3, 4, 5] [0, 1] [] rfl rfl rfl rfl ?_)
 refine Tk_seq (Tk_region (Tops_step rfl (OpT_fieldC rfl rfl rfl rfl fldF27x2) ?_))
 refine Tops_step rfl (OpT_loadC rfl rfl rfl rfl tyF22 (i := 0) rfl rfl) ?_
 refine Tops_step rfl (OpT_move rfl rfl rfl rfl) ?_
 refine Tops_step rfl (OpT_build (v := .agg #[vU64 rp0.Desc, vU64 parts1.1]) rfl rfl rfl rfl (bldV (by kernel_rfl))) ?_
 refine Tops_step rfl (OpT_fieldC rfl rfl rfl rfl fldF27x3) ?_
 refine Tops_step rfl (OpT_loadC rfl rfl rfl rfl tyF22 (i := 0) rfl rfl) ?_
 refine Tops_step rfl (OpT_move rfl rfl rfl rfl) ?_
 refine Tops_step rfl (OpT_build (v := .agg #[vU64 rp0.Driver, vU64 parts1.2.1]) rfl rfl rfl rfl (bldV (by kernel_rfl))) ?_
 refine Tops_step rfl (OpT_fieldC rfl rfl rfl rfl fldF27x4) ?_
 refine Tops_step rfl (OpT_loadC rfl rfl rfl rfl tyF22 (i := 0) rfl rfl) ?_
 refine Tops_step rfl (OpT_move rfl rfl rfl rfl) ?_
 refine Tops_step rfl (OpT_build (v := .agg #[vU64 rp0.Device, vU64 parts1.2.2]) rfl rfl rfl rfl (bldV (by kernel_rfl))) ?_
 refine Tops_step rfl (OpT_build (v := .agg #[vU64 rp0.Desc, vU64 parts1.1, vU64 rp0.Driver, vU64 parts1.2.1, vU64 rp0.Device, vU64 parts1.2.2]) rfl rfl rfl rfl (bldV (by kernel_rfl))) ?_
 refine Tops_step rfl (OpT_storeC (cs' := [vU64 rp0.Desc, vU64 parts1.1, vU64 rp0.Driver, vU64 parts1.2.1, vU64 rp0.Device, vU64 parts1.2.2]) rfl rfl rfl rfl tyF59 (i := 1) rfl rfl rfl (one_of rfl) rfl) ?_
 refine Tops_nil (Tk_wkS (fr' := [(2, some (.pointer (some ⟨b2, 0, none⟩)))]) (own' := [some (cellsR b2 59 [vU64 rp0.Desc, vU64 parts1.1, vU64 rp0.Driver, vU64 parts1.2.1, vU64 rp0.Device, vU64 parts1.2.2])]) (shr' := []) [2] [1] [] rfl rfl rfl rfl ?_)
 obtain rfl := Option.some.inj h
 exact Tk_retV rfl rfl (resA (vs := [.agg #[vU64 rp0.Desc, vU64 parts1.1, vU64 rp0.Driver, vU64 parts1.2.1, vU64 rp0.Device, vU64 parts1.2.2]]) rfl ⟨⟨_, 0, _, _, _, rfl, rfl, .inl ⟨tyF59, rfl, rfl⟩⟩, trivial⟩) [] [] rfl rfl rfl ⟨rfl, rfl, rfl⟩

set_option maxRecDepth 100000 in
set_option maxHeartbeats 4000000 in
theorem w_serial_Align {np0 : UInt64} {top1 : UInt64} {r : (UInt64 × Int)} (h : serial_Align np0 top1 = some r) :
  Ctr Try.prog 30 #[vU64 np0, vU64 top1] [] []
   (fun rv own shr => rv = .tuple #[vU64 r.1, vI r.2] ∧ own = [] ∧ shr = []) := by
 unfold serial_Align at h
 refine Ctr.mk (args := [vU64 np0, vU64 top1]) Try.func30 rfl rfl (fun R0 w0 B => ?_)
 refine Tk_seq (Tk_region (Tops_step rfl (OpT_assign rfl rfl rfl rfl) ?_))
 refine Tops_step rfl (OpT_assign rfl rfl rfl rfl) ?_
 refine Tops_nil (Tk_wkS (fr' := [(0, some (vU64 np0)), (1, some (vU64 top1))]) (own' := []) (shr' := []) [0, 1] [] [] rfl rfl rfl rfl ?_)
 refine Tk_seq (Tk_seq (Tk_region (Tops_step rfl (OpT_move rfl rfl rfl rfl) ?_)))
 refine Tops_step rfl (OpT_bin rfl rfl rfl rfl rfl (bin_eql_u64 (a := top1) (b := (0 : UInt64)))) ?_
 refine Tops_step rfl (OpT_move rfl rfl rfl rfl) ?_
 rcases Bool.eq_false_or_eq_true (top1 == (0 : UInt64)) with hg1 | hg1
 ·replace h := br_t hg1 h
  refine Tops_no rfl rfl (congrArg (fun b => some (Value.bool b)) hg1) rfl rfl ?_
  refine Tops_no rfl rfl (congrArg (fun b => some (Value.bool b)) hg1) rfl rfl ?_
  refine Tops_no rfl rfl (congrArg (fun b => some (Value.bool b)) hg1) rfl rfl ?_
  refine Tops_no rfl rfl (congrArg (fun b => some (Value.bool b)) hg1) rfl rfl ?_
  refine Tops_no rfl rfl (congrArg (fun b => some (Value.bool b)) hg1) rfl rfl ?_
  refine Tops_step rfl (OpT_pickT rfl rfl rfl (congrArg (fun b => some (Value.bool b)) hg1) rfl) ?_
  refine Tops_step rfl (OpT_move rfl rfl rfl rfl) ?_
  refine Tops_no rfl rfl rfl rfl rfl ?_
  refine Tops_no rfl rfl rfl rfl rfl ?_
  refine Tops_no rfl rfl rfl rfl rfl ?_
  refine Tops_no rfl rfl rfl rfl rfl ?_
  refine Tops_no rfl rfl rfl rfl rfl ?_
  refine Tops_no rfl rfl rfl rfl rfl ?_
  refine Tops_step rfl (OpT_pickT rfl rfl rfl rfl rfl) ?_
  refine Tops_nil (Tk_wkS (fr' := [(0, some (vU64 np0)), (1, some (vU64 top1)), (22, some (vB true))]) (own' := []) (shr' := []) [0, 1, 22] [] [] rfl rfl rfl rfl ?_)
  refine Tk_condT rfl ?_
  refine Tk_seq (Tk_region (Tops_step rfl (OpT_assign rfl rfl rfl rfl) ?_))
  refine Tops_step rfl (OpT_assign rfl rfl rfl rfl) ?_
  refine Tops_nil (Tk_wkS (fr' := [(4, some (vU64 (0 : UInt64))), (5, some (vI (2 : Int)))]) (own' := []) (shr' := []) [4, 5] [] [] rfl rfl rfl rfl ?_)
  obtain rfl := Option.some.inj h
  exact Tk_retV rfl rfl (resA (vs := [vU64 (0 : UInt64), vI (2 : Int)]) rfl ⟨rfl, rfl, trivial⟩) [] [] rfl rfl rfl ⟨rfl, rfl, rfl⟩
 ·replace h := br_f hg1 h
  refine Tops_yes rfl rfl (congrArg (fun b => some (Value.bool b)) hg1) (OpT_move rfl rfl rfl rfl) ?_
  rintro _ rfl
  refine Tops_yes rfl rfl (congrArg (fun b => some (Value.bool b)) hg1) (OpT_move rfl rfl rfl rfl) ?_
  rintro _ rfl
  refine Tops_yes rfl rfl (congrArg (fun b => some (Value.bool b)) hg1) (OpT_bin rfl rfl rfl rfl rfl (bin_sub_u64 (a := top1) (b := (1 : UInt64)))) ?_
  rintro _ rfl
  refine Tops_yes rfl rfl (congrArg (fun b => some (Value.bool b)) hg1) (OpT_bin rfl rfl rfl rfl rfl (bin_and_u64 (a := top1) (b := top1 - (1 : UInt64)))) ?_
  rintro _ rfl
  refine Tops_yes rfl rfl (congrArg (fun b => some (Value.bool b)) hg1) (OpT_bin rfl rfl rfl rfl rfl (bin_neq_u64 (a := top1 &&& (top1 - (1 : UInt64))) (b := (0 : UInt64)))) ?_
  rintro _ rfl
  refine Tops_step rfl (OpT_pickF rfl rfl rfl (congrArg (fun b => some (Value.bool b)) hg1) rfl) ?_
  refine Tops_step rfl (OpT_move rfl rfl rfl rfl) ?_
  rcases Bool.eq_false_or_eq_true ((top1 &&& (top1 - (1 : UInt64))) != (0 : UInt64)) with hg2 | hg2
  ·replace h := br_t hg2 h
   refine Tops_no rfl rfl (congrArg (fun b => some (Value.bool b)) hg2) rfl rfl ?_
   refine Tops_no rfl rfl (congrArg (fun b => some (Value.bool b)) hg2) rfl rfl ?_
   refine Tops_no rfl rfl (congrArg (fun b => some (Value.bool b)) hg2) rfl rfl ?_
   refine Tops_no rfl rfl (congrArg (fun b => some (Value.bool b)) hg2) rfl rfl ?_
   refine Tops_no rfl rfl (congrArg (fun b => some (Value.bool b)) hg2) rfl rfl ?_
   refine Tops_no rfl rfl (congrArg (fun b => some (Value.bool b)) hg2) rfl rfl ?_
   refine Tops_step rfl (OpT_pickT rfl rfl rfl (congrArg (fun b => some (Value.bool b)) hg2) rfl) ?_
   refine Tops_nil (Tk_wkS (fr' := [(0, some (vU64 np0)), (1, some (vU64 top1)), (22, some (vB true))]) (own' := []) (shr' := []) [0, 1, 22] [] [] rfl rfl rfl rfl ?_)
   refine Tk_condT rfl ?_
   refine Tk_seq (Tk_region (Tops_step rfl (OpT_assign rfl rfl rfl rfl) ?_))
   refine Tops_step rfl (OpT_assign rfl rfl rfl rfl) ?_
   refine Tops_nil (Tk_wkS (fr' := [(4, some (vU64 (0 : UInt64))), (5, some (vI (2 : Int)))]) (own' := []) (shr' := []) [4, 5] [] [] rfl rfl rfl rfl ?_)
   obtain rfl := Option.some.inj h
   exact Tk_retV rfl rfl (resA (vs := [vU64 (0 : UInt64), vI (2 : Int)]) rfl ⟨rfl, rfl, trivial⟩) [] [] rfl rfl rfl ⟨rfl, rfl, rfl⟩
  ·replace h := br_f hg2 h
   refine Tops_yes rfl rfl (congrArg (fun b => some (Value.bool b)) hg2) (OpT_move rfl rfl rfl rfl) ?_
   rintro _ rfl
   refine Tops_yes rfl rfl (congrArg (fun b => some (Value.bool b)) hg2) (OpT_move rfl rfl rfl rfl) ?_
   rintro _ rfl
   refine Tops_yes rfl rfl (congrArg (fun b => some (Value.bool b)) hg2) (OpT_bin rfl rfl rfl rfl rfl (bin_sub_u64 (a := top1) (b := (1 : UInt64)))) ?_
   rintro _ rfl
   refine Tops_yes rfl rfl (congrArg (fun b => some (Value.bool b)) hg2) (OpT_bin rfl rfl rfl rfl rfl (bin_add_u64 (a := np0) (b := top1 - (1 : UInt64)))) ?_
   rintro _ rfl
   refine Tops_yes rfl rfl (congrArg (fun b => some (Value.bool b)) hg2) (OpT_move rfl rfl rfl rfl) ?_
   rintro _ rfl
   refine Tops_yes rfl rfl (congrArg (fun b => some (Value.bool b)) hg2) (OpT_bin rfl rfl rfl rfl rfl (bin_lss_u64 (a := np0 + (top1 - (1 : UInt64))) (b := np0))) ?_
   rintro _ rfl
   refine Tops_step rfl (OpT_pickF rfl rfl rfl (congrArg (fun b => some (Value.bool b)) hg2) rfl) ?_
   refine Tops_nil (Tk_wkS (fr' := [(0, some (vU64 np0)), (1, some (vU64 top1)), (22, some (vB (decide ((np0 + (top1 - (1 : UInt64))) < np0))))]) (own' := []) (shr' := []) [0, 1, 22] [] [] rfl rfl rfl rfl ?_)
   rcases Bool.eq_false_or_eq_true (decide ((np0 + (top1 - (1 : UInt64))) < np0)) with hg3 | hg3
   ·replace h := br_t hg3 h
    refine Tk_condT (congrArg (fun b => some (Value.bool b)) hg3) ?_
    refine Tk_seq (Tk_region (Tops_step rfl (OpT_assign rfl rfl rfl rfl) ?_))
    refine Tops_step rfl (OpT_assign rfl rfl rfl rfl) ?_
    refine Tops_nil (Tk_wkS (fr' := [(4, some (vU64 (0 : UInt64))), (5, some (vI (2 : Int)))]) (own' := []) (shr' := []) [4, 5] [] [] rfl rfl rfl rfl ?_)
    obtain rfl := Option.some.inj h
    exact Tk_retV rfl rfl (resA (vs := [vU64 (0 : UInt64), vI (2 : Int)]) rfl ⟨rfl, rfl, trivial⟩) [] [] rfl rfl rfl ⟨rfl, rfl, rfl⟩
   ·replace h := br_f hg3 h
    refine Tk_condF (congrArg (fun b => some (Value.bool b)) hg3) ?_
    refine Tk_skip (Tk_seq (Tk_region (Tops_step rfl (OpT_move rfl rfl rfl rfl) ?_)))
    refine Tops_step rfl (OpT_move rfl rfl rfl rfl) ?_
    refine Tops_step rfl (OpT_bin rfl rfl rfl rfl rfl (bin_sub_u64 (a := top1) (b := (1 : UInt64)))) ?_
    refine Tops_step rfl (OpT_bin rfl rfl rfl rfl rfl (bin_add_u64 (a := np0) (b := top1 - (1 : UInt64)))) ?_
    refine Tops_step rfl (OpT_move rfl rfl rfl rfl) ?_
    refine Tops_step rfl (OpT_bin rfl rfl rfl rfl rfl (bin_sub_u64 (a := top1) (b := (1 : UInt64)))) ?_
    refine Tops_step rfl (OpT_bin rfl rfl rfl rfl rfl (bin_andNot_u64 (a := np0 + (top1 - (1 : UInt64))) (b := top1 - (1 : UInt64)))) ?_
    refine Tops_step rfl (OpT_assign rfl rfl rfl rfl) ?_
    refine Tops_step rfl (OpT_assign rfl rfl rfl rfl) ?_
    refine Tops_nil (Tk_wkS (fr' := [(4, some (vU64 ((np0 + (top1 - (1 : UInt64))) &&& ~~~(top1 - (1 : UInt64))))), (5, some (vI (0 : Int)))]) (own' := []) (shr' := []) [4, 5] [] [] rfl rfl rfl rfl ?_)
    obtain rfl := Option.some.inj h
    exact Tk_retV rfl rfl (resA (vs := [vU64 ((np0 + (top1 - (1 : UInt64))) &&& ~~~(top1 - (1 : UInt64))), vI (0 : Int)]) rfl ⟨rfl, rfl, trivial⟩) [] [] rfl rfl rfl ⟨rfl, rfl, rfl⟩

set_option maxRecDepth 100000 in
set_option maxHeartbeats 4000000 in
theorem w_layout_beyond {atp0 : UInt64} {np1 : UInt64} {r : Bool} (h : layout_beyond atp0 np1 = some r) :
  Ctr Try.prog 31 #[vU64 atp0, vU64 np1] [] []
   (fun rv own shr => rv = vB r ∧ own = [] ∧ shr = []) := by
 unfold layout_beyond at h
 refine Ctr.mk (args := [vU64 atp0, vU64 np1]) Try.func31 rfl rfl (fun R0 w0 B => ?_)
 refine Tk_seq (Tk_region (Tops_step rfl (OpT_assign rfl rfl rfl rfl) ?_))
 refine Tops_nil (Tk_wkS (fr' := [(0, some (vU64 atp0)), (1, some (vU64 np1))]) (own' := []) (shr' := []) [0, 1] [] [] rfl rfl rfl rfl ?_)
 refine Tk_seq (Tk_region (Tops_step rfl (OpT_move rfl rfl rfl rfl) ?_))
 refine Tops_step rfl (OpT_bin rfl rfl rfl rfl rfl (bin_gtr_u64 (a := np1) (b := (0 : UInt64)))) ?_
 refine Tops_step rfl (OpT_move rfl rfl rfl rfl) ?_
 rcases Bool.eq_false_or_eq_true (decide (np1 > (0 : UInt64))) with hg1 | hg1
 ·replace h := br_t hg1 h
  refine Tops_yes rfl rfl (congrArg (fun b => some (Value.bool b)) hg1) (OpT_move rfl rfl rfl rfl) ?_
  rintro _ rfl
  refine Tops_yes rfl rfl (congrArg (fun b => some (Value.bool b)) hg1) (OpT_bin rfl rfl rfl rfl rfl (bin_sub_u64 (a := np1) (b := (1 : UInt64)))) ?_
  rintro _ rfl
  refine Tops_yes rfl rfl (congrArg (fun b => some (Value.bool b)) hg1) (OpT_move rfl rfl rfl rfl) ?_
  rintro _ rfl
  refine Tops_yes rfl rfl (congrArg (fun b => some (Value.bool b)) hg1) (OpT_bin rfl rfl rfl rfl rfl (bin_sub_u64 (a := (18446744073709551615 : UInt64)) (b := atp0))) ?_
  rintro _ rfl
  refine Tops_yes rfl rfl (congrArg (fun b => some (Value.bool b)) hg1) (OpT_bin rfl rfl rfl rfl rfl (bin_gtr_u64 (a := np1 - (1 : UInt64)) (b := (18446744073709551615 : UInt64) - atp0))) ?_
  rintro _ rfl
  refine Tops_step rfl (OpT_pickT rfl rfl rfl (congrArg (fun b => some (Value.bool b)) hg1) rfl) ?_
  refine Tops_step rfl (OpT_assign rfl rfl rfl rfl) ?_
  refine Tops_nil (Tk_wkS (fr' := [(4, some (vB (decide ((np1 - (1 : UInt64)) > ((18446744073709551615 : UInt64) - atp0)))))]) (own' := []) (shr' := []) [4] [] [] rfl rfl rfl rfl ?_)
  obtain rfl := Option.some.inj h
  exact Tk_retV rfl rfl (resA (vs := [vB (decide ((np1 - (1 : UInt64)) > ((18446744073709551615 : UInt64) - atp0)))]) rfl ⟨rfl, trivial⟩) [] [] rfl rfl rfl ⟨rfl, rfl, rfl⟩
 ·replace h := br_f hg1 h
  refine Tops_no rfl rfl (congrArg (fun b => some (Value.bool b)) hg1) rfl rfl ?_
  refine Tops_no rfl rfl (congrArg (fun b => some (Value.bool b)) hg1) rfl rfl ?_
  refine Tops_no rfl rfl (congrArg (fun b => some (Value.bool b)) hg1) rfl rfl ?_
  refine Tops_no rfl rfl (congrArg (fun b => some (Value.bool b)) hg1) rfl rfl ?_
  refine Tops_no rfl rfl (congrArg (fun b => some (Value.bool b)) hg1) rfl rfl ?_
  refine Tops_step rfl (OpT_pickF rfl rfl rfl (congrArg (fun b => some (Value.bool b)) hg1) rfl) ?_
  refine Tops_step rfl (OpT_assign rfl rfl rfl rfl) ?_
  refine Tops_nil (Tk_wkS (fr' := [(4, some (vB false))]) (own' := []) (shr' := []) [4] [] [] rfl rfl rfl rfl ?_)
  obtain rfl := Option.some.inj h
  exact Tk_retV rfl rfl (resA (vs := [vB false]) rfl ⟨rfl, trivial⟩) [] [] rfl rfl rfl ⟨rfl, rfl, rfl⟩

set_option maxRecDepth 100000 in
set_option maxHeartbeats 4000000 in
theorem w_layout_Place {packed : Bool} {size : Int} {base : UInt64} {r : (Rings × UInt64 × Int)} (h : layout_Place packed size base = some r) :
  Ctr Try.prog 10 #[vB packed, vI size, vU64 base] [] []
   (fun rv own shr => rv = .tuple #[.agg #[vB r.1.Packed, vI r.1.Size, vU64 r.1.Desc, vU64 r.1.Driver, vU64 r.1.Device], vU64 r.2.1, vI r.2.2] ∧ own = [] ∧ shr = []) := by
 unfold layout_Place at h
 refine Ctr.mk (args := [vB packed, vI size, vU64 base]) Try.func10 rfl rfl (fun R0 w0 B => ?_)
 refine Tk_seq (Tk_region (Tops_ex rfl (OpT_alloc rfl rfl rfl tyZ27) fun b1 => ?_))
 refine Tops_step rfl (OpT_assign rfl rfl rfl rfl) ?_
 refine Tops_step rfl (OpT_assign rfl rfl rfl rfl) ?_
 refine Tops_nil (Tk_wkS (fr' := [(0, some (vB packed)), (1, some (vI size)), (2, some (vU64 base)), (6, some (.pointer (some ⟨b1, 0, none⟩)))]) (own' := [some (cellsR b1 27 [vB false, vI (0 : Int), vU64 (0 : UInt64), vU64 (0 : UInt64), vU64 (0 : UInt64)])]) (shr' := []) [0, 1, 2, 6] [0] [] rfl rfl rfl rfl ?_)
 refine Tk_seq (Tk_region (Tops_step rfl (OpT_move rfl rfl rfl rfl) ?_))
 refine Tops_step rfl (OpT_move rfl rfl rfl rfl) ?_
 refine Tops_step rfl (OpT_build (v := .agg #[vB packed, vI size, vU64 (0 : UInt64), vU64 (0 : UInt64), vU64 (0 : UInt64)]) rfl rfl rfl rfl (bldV (by kernel_rfl))) ?_
 refine Tops_ex rfl (OpT_alloc rfl rfl rfl tyZ27) fun b2 => ?_
 refine Tops_step rfl (OpT_storeC (cs' := [vB packed, vI size, vU64 (0 : UInt64), vU64 (0 : UInt64), vU64 (0 : UInt64)]) rfl rfl rfl rfl tyF27 (i := 1) rfl rfl rfl (one_of rfl) rfl) ?_
 refine Tops_nil (Tk_wkS (fr' := [(2, some (vU64 base)), (6, some (.pointer (some ⟨b1, 0, none⟩))), (9, some (.pointer (some ⟨b2, 0, none⟩)))]) (own' := [some (cellsR b1 27 [vB false, vI (0 : Int), vU64 (0 : UInt64), vU64 (0 : UInt64), vU64 (0 : UInt64)]), some (cellsR b2 27 [vB packed, vI size, vU64 (0 : UInt64), vU64 (0 : UInt64), vU64 (0 : UInt64)])]) (shr' := []) [2, 6, 9] [0, 1] [] rfl rfl rfl rfl ?_)
 refine Tk_seq (Tk_seq (Tk_region (Tops_step rfl (OpT_loadCA (vs := [vB packed, vI size, vU64 (0 : UInt64), vU64 (0 : UInt64), vU64 (0 : UInt64)]) rfl rfl rfl rfl tyF27 (i := 1) rfl rfl rfl) ?_)))
 obtain ⟨issize1, hx1, h⟩ := ob_e h
 refine Tops_exP rfl (OpT_call (w_layout_isSize hx1) [] [] rfl rfl rfl rfl rfl callee27 rfl rfl rfl rfl) ?_
 rintro _ ⟨_, _, _, ⟨rfl, rfl, rfl⟩, rfl⟩
 refine Tops_step rfl (OpT_not rfl rfl rfl rfl) ?_
 refine Tops_nil (Tk_wkS (fr' := [(2, some (vU64 base)), (6, some (.pointer (some ⟨b1, 0, none⟩))), (9, some (.pointer (some ⟨b2, 0, none⟩))), (21, some (vB (!issize1)))]) (own' := [some (cellsR b1 27 [vB false, vI (0 : Int), vU64 (0 : UInt64), vU64 (0 : UInt64), vU64 (0 : UInt64)]), some (cellsR b2 27 [vB packed, vI size, vU64 (0 : UInt64), vU64 (0 : UInt64), vU64 (0 : UInt64)])]) (shr' := []) [2, 6, 9, 21] [0, 1] [] rfl rfl rfl rfl ?_)
 rcases Bool.eq_false_or_eq_true ((!issize1)) with hg1 | hg1
 ·replace h := br_t hg1 h
  refine Tk_condT (congrArg (fun b => some (Value.bool b)) hg1) ?_
  refine Tk_seq (Tk_region (Tops_step rfl (OpT_build (v := .agg #[vB false, vI (0 : Int), vU64 (0 : UInt64), vU64 (0 : UInt64), vU64 (0 : UInt64)]) rfl rfl rfl rfl (bldV (by kernel_rfl))) ?_))
  refine Tops_step rfl (OpT_storeC (cs' := [vB false, vI (0 : Int), vU64 (0 : UInt64), vU64 (0 : UInt64), vU64 (0 : UInt64)]) rfl rfl rfl rfl tyF27 (i := 0) rfl rfl rfl (one_of rfl) rfl) ?_
  refine Tops_step rfl (OpT_assign rfl rfl rfl rfl) ?_
  refine Tops_step rfl (OpT_assign rfl rfl rfl rfl) ?_
  refine Tops_nil (Tk_wkS (fr' := [(6, some (.pointer (some ⟨b1, 0, none⟩))), (7, some (vU64 (0 : UInt64))), (8, some (vI (2 : Int)))]) (own' := [some (cellsR b1 27 [vB false, vI (0 : Int), vU64 (0 : UInt64), vU64 (0 : UInt64), vU64 (0 : UInt64)])]) (shr' := []) [6, 7, 8] [0] [] rfl rfl rfl rfl ?_)
  obtain rfl := Option.some.inj h
  exact Tk_retV rfl rfl (resA (vs := [.agg #[vB false, vI (0 : Int), vU64 (0 : UInt64), vU64 (0 : UInt64), vU64 (0 : UInt64)], vU64 (0 : UInt64), vI (2 : Int)]) rfl ⟨⟨_, 0, _, _, _, rfl, rfl, .inl ⟨tyF27, rfl, rfl⟩⟩, rfl, rfl, trivial⟩) [] [] rfl rfl rfl ⟨rfl, rfl, rfl⟩
 ·replace h := br_f hg1 h
  refine Tk_condF (congrArg (fun b => some (Value.bool b)) hg1) ?_
  refine Tk_skip (Tk_seq (Tk_region (Tops_step rfl (OpT_move rfl rfl rfl rfl) ?_)))
  refine Tops_step rfl (OpT_assign rfl rfl rfl rfl) ?_
  refine Tops_nil (Tk_wkS (fr' := [(2, some (vU64 base)), (6, some (.pointer (some ⟨b1, 0, none⟩))), (9, some (.pointer (some ⟨b2, 0, none⟩))), (10, some (vU64 base))]) (own' := [some (cellsR b1 27 [vB false, vI (0 : Int), vU64 (0 : UInt64), vU64 (0 : UInt64), vU64 (0 : UInt64)]), some (cellsR b2 27 [vB packed, vI size, vU64 (0 : UInt64), vU64 (0 : UInt64), vU64 (0 : UInt64)])]) (shr' := []) [2, 6, 9, 10] [0, 1] [] rfl rfl rfl rfl ?_)
  refine Tk_seq (Tk_region (Tops_step rfl (OpT_loadCA (vs := [vB packed, vI size, vU64 (0 : UInt64), vU64 (0 : UInt64), vU64 (0 : UInt64)]) rfl rfl rfl rfl tyF27 (i := 1) rfl rfl rfl) ?_))
  obtain ⟨steps1, hx2, h⟩ := ob_e h
  refine Tops_exP rfl (OpT_call (w_layout_steps hx2) [] [] rfl rfl rfl rfl rfl callee28 rfl rfl rfl rfl) ?_
  rintro _ ⟨_, _, _, ⟨rfl, rfl, rfl⟩, rfl⟩
  refine Tops_ex rfl (OpT_alloc rfl rfl rfl tyZ56) fun b3 => ?_
  refine Tops_step rfl (OpT_storeC (cs' := [vU64 steps1.a0, vU64 steps1.a1, vU64 steps1.a2]) rfl rfl rfl rfl tyF56 (i := 2) rfl rfl rfl (one_of rfl) rfl) ?_
  refine Tops_nil (Tk_wkS (fr' := [(2, some (vU64 base)), (6, some (.pointer (some ⟨b1, 0, none⟩))), (9, some (.pointer (some ⟨b2, 0, none⟩))), (10, some (vU64 base)), (11, some (.pointer (some ⟨b3, 0, none⟩)))]) (own' := [some (cellsR b1 27 [vB false, vI (0 : Int), vU64 (0 : UInt64), vU64 (0 : UInt64), vU64 (0 : UInt64)]), some (cellsR b2 27 [vB packed, vI size, vU64 (0 : UInt64), vU64 (0 : UInt64), vU64 (0 : UInt64)]), some (cellsR b3 56 [vU64 steps1.a0, vU64 steps1.a1, vU64 steps1.a2])]) (shr' := []) [2, 6, 9, 10, 11] [0, 1, 2] [] rfl rfl rfl rfl ?_)
  refine Tk_seq (Tk_seq (Tk_region (Tops_step rfl (OpT_loadCA (vs := [vB packed, vI size, vU64 (0 : UInt64), vU64 (0 : UInt64), vU64 (0 : UInt64)]) rfl rfl rfl rfl tyF27 (i := 1) rfl rfl rfl) ?_)))
  obtain ⟨spans1, hx3, h⟩ := ob_e h
  refine Tops_exP rfl (OpT_call (w_layout_spans hx3) [] [] rfl rfl rfl rfl rfl callee29 rfl rfl rfl rfl) ?_
  rintro _ ⟨_, _, _, ⟨rfl, rfl, rfl⟩, rfl⟩
  refine Tops_step rfl (OpT_move rfl rfl rfl rfl) ?_
  refine Tops_nil (Tk_wkS (fr' := [(2, some (vU64 base)), (6, some (.pointer (some ⟨b1, 0, none⟩))), (9, some (.pointer (some ⟨b2, 0, none⟩))), (10, some (vU64 base)), (11, some (.pointer (some ⟨b3, 0, none⟩))), (27, some (.agg #[vU64 spans1.a0.a0, vU64 spans1.a0.a1, vU64 spans1.a1.a0, vU64 spans1.a1.a1, vU64 spans1.a2.a0, vU64 spans1.a2.a1])), (28, some (vI (0 : Int)))]) (own' := [some (cellsR b1 27 [vB false, vI (0 : Int), vU64 (0 : UInt64), vU64 (0 : UInt64), vU64 (0 : UInt64)]), some (cellsR b2 27 [vB packed, vI size, vU64 (0 : UInt64), vU64 (0 : UInt64), vU64 (0 : UInt64)]), some (cellsR b3 56 [vU64 steps1.a0, vU64 steps1.a1, vU64 steps1.a2])]) (shr' := []) [2, 6, 9, 10, 11, 27, 28] [0, 1, 2] [] rfl rfl rfl rfl ?_)
  refine Tk_block (Tk_unroll 3 ?_)
  refine Tk_seq (Tk_region (Tops_step rfl (OpT_bin rfl rfl rfl rfl rfl (bin_lss_i (a := (0 : Int)) (b := (3 : Int)))) ?_))
  refine Tops_nil (Tk_seq (Tk_condT rfl ?_))
  refine Tk_skip (Tk_seq (Tk_block (Tk_seq (Tk_region (Tops_step rfl (OpT_move rfl rfl rfl rfl) ?_)))))
  refine Tops_step rfl (OpT_idxKA (cs := [vU64 spans1.a0.a0, vU64 spans1.a0.a1, vU64 spans1.a1.a0, vU64 spans1.a1.a1, vU64 spans1.a2.a0, vU64 spans1.a2.a1]) (vs := [vU64 spans1.a0.a0, vU64 spans1.a0.a1]) rfl rfl rfl rfl rfl arrF59 tyF58 (by decide) rfl) ?_
  refine Tops_ex rfl (OpT_alloc rfl rfl rfl tyZ58) fun b4 => ?_
  refine Tops_step rfl (OpT_assign rfl rfl rfl rfl) ?_
  refine Tops_step rfl (OpT_storeC (cs' := [vU64 spans1.a0.a0, vU64 spans1.a0.a1]) rfl rfl rfl rfl tyF58 (i := 3) rfl rfl rfl (one_of rfl) rfl) ?_
  refine Tops_nil (Tk_wkS (fr' := [(2, some (vU64 base)), (6, some (.pointer (some ⟨b1, 0, none⟩))), (9, some (.pointer (some ⟨b2, 0, none⟩))), (10, some (vU64 base)), (11, some (.pointer (some ⟨b3, 0, none⟩))), (27, some (.agg #[vU64 spans1.a0.a0, vU64 spans1.a0.a1, vU64 spans1.a1.a0, vU64 spans1.a1.a1, vU64 spans1.a2.a0, vU64 spans1.a2.a1])), (28, some (vI (0 : Int))), (13, some (.pointer (some ⟨b4, 0, none⟩))), (12, some (vI (0 : Int)))]) (own' := [some (cellsR b1 27 [vB false, vI (0 : Int), vU64 (0 : UInt64), vU64 (0 : UInt64), vU64 (0 : UInt64)]), some (cellsR b2 27 [vB packed, vI size, vU64 (0 : UInt64), vU64 (0 : UInt64), vU64 (0 : UInt64)]), some (cellsR b3 56 [vU64 steps1.a0, vU64 steps1.a1, vU64 steps1.a2]), some (cellsR b4 58 [vU64 spans1.a0.a0, vU64 spans1.a0.a1])]) (shr' := []) [2, 6, 9, 10, 11, 27, 28, 13, 12] [0, 1, 2, 3] [] rfl rfl rfl rfl ?_)
  refine Tk_seq (Tk_region (Tops_step rfl (OpT_move rfl rfl rfl rfl) ?_))
  refine Tops_step rfl (OpT_move rfl rfl rfl rfl) ?_
  refine Tops_step rfl (OpT_indexC rfl rfl rfl rfl rfl arrF56 (by decide)) ?_
  refine Tops_step rfl (OpT_loadC rfl rfl rfl rfl tyF22 (i := 2) rfl rfl) ?_
  obtain ⟨align1, hx4, h⟩ := ob_e h
  refine Tops_exP rfl (OpT_call (w_serial_Align hx4) [] [] rfl rfl rfl rfl rfl callee30 rfl rfl rfl rfl) ?_
  rintro _ ⟨_, _, _, ⟨rfl, rfl, rfl⟩, rfl⟩
  refine Tops_step rfl (OpT_move rfl rfl rfl rfl) ?_
  refine Tops_step rfl (OpT_extract rfl rfl rfl rfl rfl) ?_
  refine Tops_step rfl (OpT_extract rfl rfl rfl rfl rfl) ?_
  refine Tops_step rfl (OpT_assign rfl rfl rfl rfl) ?_
  refine Tops_step rfl (OpT_assign rfl rfl rfl rfl) ?_
  refine Tops_nil (Tk_wkS (fr' := [(2, some (vU64 base)), (6, some (.pointer (some ⟨b1, 0, none⟩))), (9, some (.pointer (some ⟨b2, 0, none⟩))), (11, some (.pointer (some ⟨b3, 0, none⟩))), (27, some (.agg #[vU64 spans1.a0.a0, vU64 spans1.a0.a1, vU64 spans1.a1.a0, vU64 spans1.a1.a1, vU64 spans1.a2.a0, vU64 spans1.a2.a1])), (28, some (vI (0 : Int))), (13, some (.pointer (some ⟨b4, 0, none⟩))), (12, some (vI (0 : Int))), (14, some (vU64 align1.1)), (15, some (vI align1.2))]) (own' := [some (cellsR b1 27 [vB false, vI (0 : Int), vU64 (0 : UInt64), vU64 (0 : UInt64), vU64 (0 : UInt64)]), some (cellsR b2 27 [vB packed, vI size, vU64 (0 : UInt64), vU64 (0 : UInt64), vU64 (0 : UInt64)]), some (cellsR b3 56 [vU64 steps1.a0, vU64 steps1.a1, vU64 steps1.a2]), some (cellsR b4 58 [vU64 spans1.a0.a0, vU64 spans1.a0.a1])]) (shr' := []) [2, 6, 9, 11, 27, 28, 13, 12, 14, 15] [0, 1, 2, 3] [] rfl rfl rfl rfl ?_)
  refine Tk_seq (Tk_seq (Tk_region (Tops_step rfl (OpT_move rfl rfl rfl rfl) ?_)))
  refine Tops_step rfl (OpT_bin rfl rfl rfl rfl rfl (bin_neq_i (a := align1.2) (b := (0 : Int)))) ?_
  refine Tops_step rfl (OpT_move rfl rfl rfl rfl) ?_
  rcases Bool.eq_false_or_eq_true (align1.2 != (0 : Int)) with hg2 | hg2
  ·replace h := br_t hg2 h
   refine Tops_no rfl rfl (congrArg (fun b => some (Value.bool b)) hg2) rfl rfl ?_
   refine Tops_no rfl rfl (congrArg (fun b => some (Value.bool b)) hg2) rfl rfl ?_
   refine Tops_no rfl rfl (congrArg (fun b => some (Value.bool b)) hg2) rfl rfl ?_
   refine Tops_no rfl rfl (congrArg (fun b => some (Value.bool b)) hg2) rfl rfl ?_
   refine Tops_step rfl (OpT_pickT rfl rfl rfl (congrArg (fun b => some (Value.bool b)) hg2) rfl) ?_
   refine Tops_nil (Tk_wkS (fr' := [(2, some (vU64 base)), (6, some (.pointer (some ⟨b1, 0, none⟩))), (9, some (.pointer (some ⟨b2, 0, none⟩))), (11, some (.pointer (some ⟨b3, 0, none⟩))), (27, some (.agg #[vU64 spans1.a0.a0, vU64 spans1.a0.a1, vU64 spans1.a1.a0, vU64 spans1.a1.a1, vU64 spans1.a2.a0, vU64 spans1.a2.a1])), (28, some (vI (0 : Int))), (13, some (.pointer (some ⟨b4, 0, none⟩))), (12, some (vI (0 : Int))), (14, some (vU64 align1.1)), (47, some (vB true))]) (own' := [some (cellsR b1 27 [vB false, vI (0 : Int), vU64 (0 : UInt64), vU64 (0 : UInt64), vU64 (0 : UInt64)]), some (cellsR b2 27 [vB packed, vI size, vU64 (0 : UInt64), vU64 (0 : UInt64), vU64 (0 : UInt64)]), some (cellsR b3 56 [vU64 steps1.a0, vU64 steps1.a1, vU64 steps1.a2]), some (cellsR b4 58 [vU64 spans1.a0.a0, vU64 spans1.a0.a1])]) (shr' := []) [2, 6, 9, 11, 27, 28, 13, 12, 14, 47] [0, 1, 2, 3] [] rfl rfl rfl rfl ?_)
   refine Tk_condT rfl ?_
   refine Tk_seq (Tk_region (Tops_step rfl (OpT_build (v := .agg #[vB false, vI (0 : Int), vU64 (0 : UInt64), vU64 (0 : UInt64), vU64 (0 : UInt64)]) rfl rfl rfl rfl (bldV (by kernel_rfl))) ?_))
   refine Tops_step rfl (OpT_storeC (cs' := [vB false, vI (0 : Int), vU64 (0 : UInt64), vU64 (0 : UInt64), vU64 (0 : UInt64)]) rfl rfl rfl rfl tyF27 (i := 0) rfl rfl rfl (one_of rfl) rfl) ?_
   refine Tops_step rfl (OpT_assign rfl rfl rfl rfl) ?_
   refine Tops_step rfl (OpT_assign rfl rfl rfl rfl) ?_
   refine Tops_nil (Tk_wkS (fr' := [(6, some (.pointer (some ⟨b1, 0, none⟩))), (7, some (vU64 (0 : UInt64))), (8, some (vI (2 : Int)))]) (own' := [some (cellsR b1 27 [vB false, vI (0 : Int), vU64 (0 : UInt64), vU64 (0 : UInt64), vU64 (0 : UInt64)])]) (shr' := []) [6, 7, 8] [0] [] rfl rfl rfl rfl ?_)
   obtain rfl := Option.some.inj h
   exact Tk_retV rfl rfl (resA (vs := [.agg #[vB false, vI (0 : Int), vU64 (0 : UInt64), vU64 (0 : UInt64), vU64 (0 : UInt64)], vU64 (0 : UInt64), vI (2 : Int)]) rfl ⟨⟨_, 0, _, _, _, rfl, rfl, .inl ⟨tyF27, rfl, rfl⟩⟩, rfl, rfl, trivial⟩) [] [] rfl rfl rfl ⟨rfl, rfl, rfl⟩
  ·replace h := br_f hg2 h
   refine Tops_yes rfl rfl (congrArg (fun b => some (Value.bool b)) hg2) (OpT_move rfl rfl rfl rfl) ?_
   rintro _ rfl
   refine Tops_yes rfl rfl (congrArg (fun b => some (Value.bool b)) hg2) (OpT_indexC rfl rfl rfl rfl rfl arrF58 (by decide)) ?_
   rintro _ rfl
   refine Tops_yes rfl rfl (congrArg (fun b => some (Value.bool b)) hg2) (OpT_loadC rfl rfl rfl rfl tyF22 (i := 3) rfl rfl) ?_
   rintro _ rfl
   obtain ⟨beyond1, hx5, h⟩ := ob_e h
   refine Tops_yes rfl rfl (congrArg (fun b => some (Value.bool b)) hg2) (OpT_call (w_layout_beyond hx5) [] [] rfl rfl rfl rfl rfl callee31 rfl rfl rfl rfl) ?_
   rintro _ ⟨_, _, _, ⟨rfl, rfl, rfl⟩, rfl⟩
   refine Tops_step rfl (OpT_pickF rfl rfl rfl (congrArg (fun b => some (Value.bool b)) hg2) rfl) ?_
   refine Tops_nil (Tk_wkS (fr' := [(2, some (vU64 base)), (6, some (.pointer (some ⟨b1, 0, none⟩))), (9, some (.pointer (some ⟨b2, 0, none⟩))), (11, some (.pointer (some ⟨b3, 0, none⟩))), (27, some (.agg #[vU64 spans1.a0.a0, vU64 spans1.a0.a1, vU64 spans1.a1.a0, vU64 spans1.a1.a1, vU64 spans1.a2.a0, vU64 spans1.a2.a1])), (28, some (vI (0 : Int))), (13, some (.pointer (some ⟨b4, 0, none⟩))), (12, some (vI (0 : Int))), (14, some (vU64 align1.1)), (47, some (vB beyond1))]) (own' := [some (cellsR b1 27 [vB false, vI (0 : Int), vU64 (0 : UInt64), vU64 (0 : UInt64), vU64 (0 : UInt64)]), some (cellsR b2 27 [vB packed, vI size, vU64 (0 : UInt64), vU64 (0 : UInt64), vU64 (0 : UInt64)]), some (cellsR b3 56 [vU64 steps1.a0, vU64 steps1.a1, vU64 steps1.a2]), some (cellsR b4 58 [vU64 spans1.a0.a0, vU64 spans1.a0.a1])]) (shr' := []) [2, 6, 9, 11, 27, 28, 13, 12, 14, 47] [0, 1, 2, 3] [] rfl rfl rfl rfl ?_)
   rcases Bool.eq_false_or_eq_true (beyond1) with hg3 | hg3
   ·replace h := br_t hg3 h
    refine Tk_condT (congrArg (fun b => some (Value.bool b)) hg3) ?_
    refine Tk_seq (Tk_region (Tops_step rfl (OpT_build (v := .agg #[vB false, vI (0 : Int), vU64 (0 : UInt64), vU64 (0 : UInt64), vU64 (0 : UInt64)]) rfl rfl rfl rfl (bldV (by kernel_rfl))) ?_))
    refine Tops_step rfl (OpT_storeC (cs' := [vB false, vI (0 : Int), vU64 (0 : UInt64), vU64 (0 : UInt64), vU64 (0 : UInt64)]) rfl rfl rfl rfl tyF27 (i := 0) rfl rfl rfl (one_of rfl) rfl) ?_
    refine Tops_step rfl (OpT_assign rfl rfl rfl rfl) ?_
    refine Tops_step rfl (OpT_assign rfl rfl rfl rfl) ?_
    refine Tops_nil (Tk_wkS (fr' := [(6, some (.pointer (some ⟨b1, 0, none⟩))), (7, some (vU64 (0 : UInt64))), (8, some (vI (2 : Int)))]) (own' := [some (cellsR b1 27 [vB false, vI (0 : Int), vU64 (0 : UInt64), vU64 (0 : UInt64), vU64 (0 : UInt64)])]) (shr' := []) [6, 7, 8] [0] [] rfl rfl rfl rfl ?_)
    obtain rfl := Option.some.inj h
    exact Tk_retV rfl rfl (resA (vs := [.agg #[vB false, vI (0 : Int), vU64 (0 : UInt64), vU64 (0 : UInt64), vU64 (0 : UInt64)], vU64 (0 : UInt64), vI (2 : Int)]) rfl ⟨⟨_, 0, _, _, _, rfl, rfl, .inl ⟨tyF27, rfl, rfl⟩⟩, rfl, rfl, trivial⟩) [] [] rfl rfl rfl ⟨rfl, rfl, rfl⟩
   ·replace h := br_f hg3 h
    refine Tk_condF (congrArg (fun b => some (Value.bool b)) hg3) ?_
    refine Tk_skip (Tk_seq (Tk_region (Tops_step rfl (OpT_fieldC rfl rfl rfl rfl fldF27x2) ?_)))
    refine Tops_step rfl (OpT_fieldC rfl rfl rfl rfl fldF27x3) ?_
    refine Tops_step rfl (OpT_fieldC rfl rfl rfl rfl fldF27x4) ?_
    refine Tops_step rfl (OpT_build (v := .agg #[.pointer (some ⟨b2, 2, none⟩), .pointer (some ⟨b2, 3, none⟩), .pointer (some ⟨b2, 4, none⟩)]) rfl rfl rfl rfl (bldV (by kernel_rfl))) ?_
    refine Tops_step rfl (OpT_move rfl rfl rfl rfl) ?_
    refine Tops_step rfl (OpT_idxK1 (cs := [.pointer (some ⟨b2, 2, none⟩), .pointer (some ⟨b2, 3, none⟩), .pointer (some ⟨b2, 4, none⟩)]) rfl rfl rfl rfl rfl arrF65 tyF64 (by decide) rfl) ?_
    refine Tops_step rfl (OpT_move rfl rfl rfl rfl) ?_
    refine Tops_step rfl (OpT_nilCheckP rfl rfl rfl rfl) ?_
    refine Tops_step rfl (OpT_storeC (cs' := [vB packed, vI size, vU64 align1.1, vU64 (0 : UInt64), vU64 (0 : UInt64)]) rfl rfl rfl rfl tyF22 (i := 1) rfl rfl rfl (one_of rfl) rfl) ?_
    refine Tops_nil (Tk_wkS (fr' := [(2, some (vU64 base)), (6, some (.pointer (some ⟨b1, 0, none⟩))), (9, some (.pointer (some ⟨b2, 0, none⟩))), (11, some (.pointer (some ⟨b3, 0, none⟩))), (27, some (.agg #[vU64 spans1.a0.a0, vU64 spans1.a0.a1, vU64 spans1.a1.a0, vU64 spans1.a1.a1, vU64 spans1.a2.a0, vU64 spans1.a2.a1])), (28, some (vI (0 : Int))), (13, some (.pointer (some ⟨b4, 0, none⟩))), (12, some (vI (0 : Int))), (14, some (vU64 align1.1))]) (own' := [some (cellsR b1 27 [vB false, vI (0 : Int), vU64 (0 : UInt64), vU64 (0 : UInt64), vU64 (0 : UInt64)]), some (cellsR b2 27 [vB packed, vI size, vU64 align1.1, vU64 (0 : UInt64), vU64 (0 : UInt64)]), some (cellsR b3 56 [vU64 steps1.a0, vU64 steps1.a1, vU64 steps1.a2]), some (cellsR b4 58 [vU64 spans1.a0.a0, vU64 spans1.a0.a1])]) (shr' := []) [2, 6, 9, 11, 27, 28, 13, 12, 14] [0, 1, 2, 3] [] rfl rfl rfl rfl ?_)
    refine Tk_seq (Tk_region (Tops_step rfl (OpT_move rfl rfl rfl rfl) ?_))
    refine Tops_step rfl (OpT_indexC rfl rfl rfl rfl rfl arrF58 (by decide)) ?_
    refine Tops_step rfl (OpT_loadC rfl rfl rfl rfl tyF22 (i := 3) rfl rfl) ?_
    refine Tops_step rfl (OpT_bin rfl rfl rfl rfl rfl (bin_add_u64 (a := align1.1) (b := spans1.a0.a1))) ?_
    refine Tops_step rfl (OpT_assign rfl rfl rfl rfl) ?_
    refine Tops_nil (Tk_wkS (fr' := [(2, some (vU64 base)), (6, some (.pointer (some ⟨b1, 0, none⟩))), (9, some (.pointer (some ⟨b2, 0, none⟩))), (11, some (.pointer (some ⟨b3, 0, none⟩))), (27, some (.agg #[vU64 spans1.a0.a0, vU64 spans1.a0.a1, vU64 spans1.a1.a0, vU64 spans1.a1.a1, vU64 spans1.a2.a0, vU64 spans1.a2.a1])), (28, some (vI (0 : Int))), (12, some (vI (0 : Int))), (14, some (vU64 align1.1)), (10, some (vU64 (align1.1 + spans1.a0.a1)))]) (own' := [some (cellsR b1 27 [vB false, vI (0 : Int), vU64 (0 : UInt64), vU64 (0 : UInt64), vU64 (0 : UInt64)]), some (cellsR b2 27 [vB packed, vI size, vU64 align1.1, vU64 (0 : UInt64), vU64 (0 : UInt64)]), some (cellsR b3 56 [vU64 steps1.a0, vU64 steps1.a1, vU64 steps1.a2])]) (shr' := []) [2, 6, 9, 11, 27, 28, 12, 14, 10] [0, 1, 2] [] rfl rfl rfl rfl ?_)
    refine Tk_seq (Tk_region (Tops_step rfl (OpT_move rfl rfl rfl rfl) ?_))
    refine Tops_step rfl (OpT_move rfl rfl rfl rfl) ?_
    refine Tops_step rfl (OpT_bin rfl rfl rfl rfl rfl (bin_lss_u64 (a := align1.1 + spans1.a0.a1) (b := align1.1))) ?_
    refine Tops_step rfl (OpT_move rfl rfl rfl rfl) ?_
    rcases Bool.eq_false_or_eq_true (decide ((align1.1 + spans1.a0.a1) < align1.1)) with hg4 | hg4
    ·replace h := br_t hg4 h
     refine Tops_yes rfl rfl (congrArg (fun b => some (Value.bool b)) hg4) (OpT_move rfl rfl rfl rfl) ?_
     rintro _ rfl
     refine Tops_yes rfl rfl (congrArg (fun b => some (Value.bool b)) hg4) (OpT_bin rfl rfl rfl rfl rfl (bin_lss_i (a := (0 : Int)) (b := (2 : Int)))) ?_
     rintro _ rfl
     refine Tops_step rfl (OpT_pickT rfl rfl rfl (congrArg (fun b => some (Value.bool b)) hg4) rfl) ?_
     refine Tops_nil (Tk_wkS (fr' := [(2, some (vU64 base)), (6, some (.pointer (some ⟨b1, 0, none⟩))), (9, some (.pointer (some ⟨b2, 0, none⟩))), (11, some (.pointer (some ⟨b3, 0, none⟩))), (27, some (.agg #[vU64 spans1.a0.a0, vU64 spans1.a0.a1, vU64 spans1.a1.a0, vU64 spans1.a1.a1, vU64 spans1.a2.a0, vU64 spans1.a2.a1])), (28, some (vI (0 : Int))), (10, some (vU64 (align1.1 + spans1.a0.a1))), (67, some (vB true))]) (own' := [some (cellsR b1 27 [vB false, vI (0 : Int), vU64 (0 : UInt64), vU64 (0 : UInt64), vU64 (0 : UInt64)]), some (cellsR b2 27 [vB packed, vI size, vU64 align1.1, vU64 (0 : UInt64), vU64 (0 : UInt64)]), some (cellsR b3 56 [vU64 steps1.a0, vU64 steps1.a1, vU64 steps1.a2])]) (shr' := []) [2, 6, 9, 11, 27, 28, 10, 67] [0, 1, 2] [] rfl rfl rfl rfl ?_)
     refine Tk_condT rfl ?_
     refine Tk_seq (Tk_region (Tops_step rfl (OpT_build (v := .agg #[vB false, vI (0 : Int), vU64 (0 : UInt64), vU64 (0 : UInt64), vU64 (0 : UInt64)]) rfl rfl rfl rfl (bldV (by kernel_rfl))) ?_))
     refine Tops_step rfl (OpT_storeC (cs' := [vB false, vI (0 : Int), vU64 (0 : UInt64), vU64 (0 : UInt64), vU64 (0 : UInt64)]) rfl rfl rfl rfl tyF27 (i := 0) rfl rfl rfl (one_of rfl) rfl) ?_
     refine Tops_step rfl (OpT_assign rfl rfl rfl rfl) ?_
     refine Tops_step rfl (OpT_assign rfl rfl rfl rfl) ?_
     refine Tops_nil (Tk_wkS (fr' := [(6, some (.pointer (some ⟨b1, 0, none⟩))), (7, some (vU64 (0 : UInt64))), (8, some (vI (2 : Int)))]) (own' := [some (cellsR b1 27 [vB false, vI (0 : Int), vU64 (0 : UInt64), vU64 (0 : UInt64), vU64 (0 : UInt64)])]) (shr' := []) [6, 7, 8] [0] [] rfl rfl rfl rfl ?_)
     obtain rfl := Option.some.inj h
     exact Tk_retV rfl rfl (resA (vs := [.agg #[vB false, vI (0 : Int), vU64 (0 : UInt64), vU64 (0 : UInt64), vU64 (0 : UInt64)], vU64 (0 : UInt64), vI (2 : Int)]) rfl ⟨⟨_, 0, _, _, _, rfl, rfl, .inl ⟨tyF27, rfl, rfl⟩⟩, rfl, rfl, trivial⟩) [] [] rfl rfl rfl ⟨rfl, rfl, rfl⟩
    ·replace h := br_f hg4 h
     refine Tops_no rfl rfl (congrArg (fun b => some (Value.bool b)) hg4) rfl rfl ?_
     refine Tops_no rfl rfl (congrArg (fun b => some (Value.bool b)) hg4) rfl rfl ?_
     refine Tops_step rfl (OpT_pickF rfl rfl rfl (congrArg (fun b => some (Value.bool b)) hg4) rfl) ?_
     refine Tops_nil (Tk_wkS (fr' := [(2, some (vU64 base)), (6, some (.pointer (some ⟨b1, 0, none⟩))), (9, some (.pointer (some ⟨b2, 0, none⟩))), (11, some (.pointer (some ⟨b3, 0, none⟩))), (27, some (.agg #[vU64 spans1.a0.a0, vU64 spans1.a0.a1, vU64 spans1.a1.a0, vU64 spans1.a1.a1, vU64 spans1.a2.a0, vU64 spans1.a2.a1])), (28, some (vI (0 : Int))), (10, some (vU64 (align1.1 + spans1.a0.a1))), (67, some (vB false))]) (own' := [some (cellsR b1 27 [vB false, vI (0 : Int), vU64 (0 : UInt64), vU64 (0 : UInt64), vU64 (0 : UInt64)]), some (cellsR b2 27 [vB packed, vI size, vU64 align1.1, vU64 (0 : UInt64), vU64 (0 : UInt64)]), some (cellsR b3 56 [vU64 steps1.a0, vU64 steps1.a1, vU64 steps1.a2])]) (shr' := []) [2, 6, 9, 11, 27, 28, 10, 67] [0, 1, 2] [] rfl rfl rfl rfl ?_)
     refine Tk_condF rfl ?_
     refine Tk_skip (Tk_blk (Tk_region (Tops_step rfl (OpT_bin rfl rfl rfl rfl rfl (bin_add_i (a := (0 : Int)) (b := (1 : Int)))) ?_)))
     refine Tops_step rfl (OpT_move rfl rfl rfl rfl) ?_
     refine Tops_nil (Tk_wkS (fr' := [(2, some (vU64 base)), (6, some (.pointer (some ⟨b1, 0, none⟩))), (9, some (.pointer (some ⟨b2, 0, none⟩))), (11, some (.pointer (some ⟨b3, 0, none⟩))), (27, some (.agg #[vU64 spans1.a0.a0, vU64 spans1.a0.a1, vU64 spans1.a1.a0, vU64 spans1.a1.a1, vU64 spans1.a2.a0, vU64 spans1.a2.a1])), (28, some (vI (1 : Int))), (10, some (vU64 (align1.1 + spans1.a0.a1)))]) (own' := [some (cellsR b1 27 [vB false, vI (0 : Int), vU64 (0 : UInt64), vU64 (0 : UInt64), vU64 (0 : UInt64)]), some (cellsR b2 27 [vB packed, vI size, vU64 align1.1, vU64 (0 : UInt64), vU64 (0 : UInt64)]), some (cellsR b3 56 [vU64 steps1.a0, vU64 steps1.a1, vU64 steps1.a2])]) (shr' := []) [2, 6, 9, 11, 27, 28, 10] [0, 1, 2] [] rfl rfl rfl rfl ?_)
     refine Tk_round ?_
     refine Tk_seq (Tk_region (Tops_step rfl (OpT_bin rfl rfl rfl rfl rfl (bin_lss_i (a := (1 : Int)) (b := (3 : Int)))) ?_))
     refine Tops_nil (Tk_seq (Tk_condT rfl ?_))
     refine Tk_skip (Tk_seq (Tk_block (Tk_seq (Tk_region (Tops_step rfl (OpT_move rfl rfl rfl rfl) ?_)))))
     refine Tops_step rfl (OpT_idxKA (cs := [vU64 spans1.a0.a0, vU64 spans1.a0.a1, vU64 spans1.a1.a0, vU64 spans1.a1.a1, vU64 spans1.a2.a0, vU64 spans1.a2.a1]) (vs := [vU64 spans1.a1.a0, vU64 spans1.a1.a1]) rfl rfl rfl rfl rfl arrF59 tyF58 (by decide) rfl) ?_
     refine Tops_ex rfl (OpT_alloc rfl rfl rfl tyZ58) fun b5 => ?_
     refine Tops_step rfl (OpT_assign rfl rfl rfl rfl) ?_
     refine Tops_step rfl (OpT_storeC (cs' := [vU64 spans1.a1.a0, vU64 spans1.a1.a1]) rfl rfl rfl rfl tyF58 (i := 3) rfl rfl rfl (one_of rfl) rfl) ?_
     refine Tops_nil (Tk_wkS (fr' := [(2, some (vU64 base)), (6, some (.pointer (some ⟨b1, 0, none⟩))), (9, some (.pointer (some ⟨b2, 0, none⟩))), (11, some (.pointer (some ⟨b3, 0, none⟩))), (27, some (.agg #[vU64 spans1.a0.a0, vU64 spans1.a0.a1, vU64 spans1.a1.a0, vU64 spans1.a1.a1, vU64 spans1.a2.a0, vU64 spans1.a2.a1])), (28, some (vI (1 : Int))), (10, some (vU64 (align1.1 + spans1.a0.a1))), (13, some (.pointer (some ⟨b5, 0, none⟩))), (12, some (vI (1 : Int)))]) (own' := [some (cellsR b1 27 [vB false, vI (0 : Int), vU64 (0 : UInt64), vU64 (0 : UInt64), vU64 (0 : UInt64)]), some (cellsR b2 27 [vB packed, vI size, vU64 align1.1, vU64 (0 : UInt64), vU64 (0 : UInt64)]), some (cellsR b3 56 [vU64 steps1.a0, vU64 steps1.a1, vU64 steps1.a2]), some (cellsR b5 58 [vU64 spans1.a1.a0, vU64 spans1.a1.a1])]) (shr' := []) [2, 6, 9, 11, 27, 28, 10, 13, 12] [0, 1, 2, 3] [] rfl rfl rfl rfl ?_)
     refine Tk_seq (Tk_region (Tops_step rfl (OpT_move rfl rfl rfl rfl) ?_))
     refine Tops_step rfl (OpT_move rfl rfl rfl rfl) ?_
     refine Tops_step rfl (OpT_indexC rfl rfl rfl rfl rfl arrF56 (by decide)) ?_
     refine Tops_step rfl (OpT_loadC rfl rfl rfl rfl tyF22 (i := 2) rfl rfl) ?_
     obtain ⟨align2, hx6, h⟩ := ob_e h
     refine Tops_exP rfl (OpT_call (w_serial_Align hx6) [] [] rfl rfl rfl rfl rfl callee30 rfl rfl rfl rfl) ?_
     rintro _ ⟨_, _, _, ⟨rfl, rfl, rfl⟩, rfl⟩
     refine Tops_step rfl (OpT_move rfl rfl rfl rfl) ?_
     refine Tops_step rfl (OpT_extract rfl rfl rfl rfl rfl) ?_
     refine Tops_step rfl (OpT_extract rfl rfl rfl rfl rfl) ?_
     refine Tops_step rfl (OpT_assign rfl rfl rfl rfl) ?_
     refine Tops_step rfl (OpT_assign rfl rfl rfl rfl) ?_
     refine Tops_nil (Tk_wkS (fr' := [(2, some (vU64 base)), (6, some (.pointer (some ⟨b1, 0, none⟩))), (9, some (.pointer (some ⟨b2, 0, none⟩))), (11, some (.pointer (some ⟨b3, 0, none⟩))), (27, some (.agg #[vU64 spans1.a0.a0, vU64 spans1.a0.a1, vU64 spans1.a1.a0, vU64 spans1.a1.a1, vU64 spans1.a2.a0, vU64 spans1.a2.a1])), (28, some (vI (1 : Int))), (13, some (.pointer (some ⟨b5, 0, none⟩))), (12, some (vI (1 : Int))), (14, some (vU64 align2.1)), (15, some (vI align2.2))]) (own' := [some (cellsR b1 27 [vB false, vI (0 : Int), vU64 (0 : UInt64), vU64 (0 : UInt64), vU64 (0 : UInt64)]), some (cellsR b2 27 [vB packed, vI size, vU64 align1.1, vU64 (0 : UInt64), vU64 (0 : UInt64)]), some (cellsR b3 56 [vU64 steps1.a0, vU64 steps1.a1, vU64 steps1.a2]), some (cellsR b5 58 [vU64 spans1.a1.a0, vU64 spans1.a1.a1])]) (shr' := []) [2, 6, 9, 11, 27, 28, 13, 12, 14, 15] [0, 1, 2, 3] [] rfl rfl rfl rfl ?_)
     refine Tk_seq (Tk_seq (Tk_region (Tops_step rfl (OpT_move rfl rfl rfl rfl) ?_)))
     refine Tops_step rfl (OpT_bin rfl rfl rfl rfl rfl (bin_neq_i (a := align2.2) (b := (0 : Int)))) ?_
     refine Tops_step rfl (OpT_move rfl rfl rfl rfl) ?_
     rcases Bool.eq_false_or_eq_true (align2.2 != (0 : Int)) with hg5 | hg5
     ·replace h := br_t hg5 h
      refine Tops_no rfl rfl (congrArg (fun b => some (Value.bool b)) hg5) rfl rfl ?_
      refine Tops_no rfl rfl (congrArg (fun b => some (Value.bool b)) hg5) rfl rfl ?_
      refine Tops_no rfl rfl (congrArg (fun b => some (Value.bool b)) hg5) rfl rfl ?_
      refine Tops_no rfl rfl (congrArg (fun b => some (Value.bool b)) hg5) rfl rfl ?_
      refine Tops_step rfl (OpT_pickT rfl rfl rfl (congrArg (fun b => some (Value.bool b)) hg5) rfl) ?_
      refine Tops_nil (Tk_wkS (fr' := [(2, some (vU64 base)), (6, some (.pointer (some ⟨b1, 0, none⟩))), (9, some (.pointer (some ⟨b2, 0, none⟩))), (11, some (.pointer (some ⟨b3, 0, none⟩))), (27, some (.agg #[vU64 spans1.a0.a0, vU64 spans1.a0.a1, vU64 spans1.a1.a0, vU64 spans1.a1.a1, vU64 spans1.a2.a0, vU64 spans1.a2.a1])), (28, some (vI (1 : Int))), (13, some (.pointer (some ⟨b5, 0, none⟩))), (12, some (vI (1 : Int))), (14, some (vU64 align2.1)), (47, some (vB true))]) (own' := [some (cellsR b1 27 [vB false, vI (0 : Int), vU64 (0 : UInt64), vU64 (0 : UInt64), vU64 (0 : UInt64)]), some (cellsR b2 27 [vB packed, vI size, vU64 align1.1, vU64 (0 : UInt64), vU64 (0 : UInt64)]), some (cellsR b3 56 [vU64 steps1.a0, vU64 steps1.a1, vU64 steps1.a2]), some (cellsR b5 58 [vU64 spans1.a1.a0, vU64 spans1.a1.a1])]) (shr' := []) [2, 6, 9, 11, 27, 28, 13, 12, 14, 47] [0, 1, 2, 3] [] rfl rfl rfl rfl ?_)
      refine Tk_condT rfl ?_
      refine Tk_seq (Tk_region (Tops_step rfl (OpT_build (v := .agg #[vB false, vI (0 : Int), vU64 (0 : UInt64), vU64 (0 : UInt64), vU64 (0 : UInt64)]) rfl rfl rfl rfl (bldV (by kernel_rfl))) ?_))
      refine Tops_step rfl (OpT_storeC (cs' := [vB false, vI (0 : Int), vU64 (0 : UInt64), vU64 (0 : UInt64), vU64 (0 : UInt64)]) rfl rfl rfl rfl tyF27 (i := 0) rfl rfl rfl (one_of rfl) rfl) ?_
      refine Tops_step rfl (OpT_assign rfl rfl rfl rfl) ?_
      refine Tops_step rfl (OpT_assign rfl rfl rfl rfl) ?_
      refine Tops_nil (Tk_wkS (fr' := [(6, some (.pointer (some ⟨b1, 0, none⟩))), (7, some (vU64 (0 : UInt64))), (8, some (vI (2 : Int)))]) (own' := [some (cellsR b1 27 [vB false, vI (0 : Int), vU64 (0 : UInt64), vU64 (0 : UInt64), vU64 (0 : UInt64)])]) (shr' := []) [6, 7, 8] [0] [] rfl rfl rfl rfl ?_)
      obtain rfl := Option.some.inj h
      exact Tk_retV rfl rfl (resA (vs := [.agg #[vB false, vI (0 : Int), vU64 (0 : UInt64), vU64 (0 : UInt64), vU64 (0 : UInt64)], vU64 (0 : UInt64), vI (2 : Int)]) rfl ⟨⟨_, 0, _, _, _, rfl, rfl, .inl ⟨tyF27, rfl, rfl⟩⟩, rfl, rfl, trivial⟩) [] [] rfl rfl rfl ⟨rfl, rfl, rfl⟩
     ·replace h := br_f hg5 h
      refine Tops_yes rfl rfl (congrArg (fun b => some (Value.bool b)) hg5) (OpT_move rfl rfl rfl rfl) ?_
      rintro _ rfl
      refine Tops_yes rfl rfl (congrArg (fun b => some (Value.bool b)) hg5) (OpT_indexC rfl rfl rfl rfl rfl arrF58 (by decide)) ?_
      rintro _ rfl
      refine Tops_yes rfl rfl (congrArg (fun b => some (Value.bool b)) hg5) (OpT_loadC rfl rfl rfl rfl tyF22 (i := 3) rfl rfl) ?_
      rintro _ rfl
      obtain ⟨beyond2, hx7, h⟩ := ob_e h
      refine Tops_yes rfl rfl (congrArg (fun b => some (Value.bool b)) hg5) (OpT_call (w_layout_beyond hx7) [] [] rfl rfl rfl rfl rfl callee31 rfl rfl rfl rfl) ?_
      rintro _ ⟨_, _, _, ⟨rfl, rfl, rfl⟩, rfl⟩
      refine Tops_step rfl (OpT_pickF rfl rfl rfl (congrArg (fun b => some (Value.bool b)) hg5) rfl) ?_
      refine Tops_nil (Tk_wkS (fr' := [(2, some (vU64 base)), (6, some (.pointer (some ⟨b1, 0, none⟩))), (9, some (.pointer (some ⟨b2, 0, none⟩))), (11, some (.pointer (some ⟨b3, 0, none⟩))), (27, some (.agg #[vU64 spans1.a0.a0, vU64 spans1.a0.a1, vU64 spans1.a1.a0, vU64 spans1.a1.a1, vU64 spans1.a2.a0, vU64 spans1.a2.a1])), (28, some (vI (1 : Int))), (13, some (.pointer (some ⟨b5, 0, none⟩))), (12, some (vI (1 : Int))), (14, some (vU64 align2.1)), (47, some (vB beyond2))]) (own' := [some (cellsR b1 27 [vB false, vI (0 : Int), vU64 (0 : UInt64), vU64 (0 : UInt64), vU64 (0 : UInt64)]), some (cellsR b2 27 [vB packed, vI size, vU64 align1.1, vU64 (0 : UInt64), vU64 (0 : UInt64)]), some (cellsR b3 56 [vU64 steps1.a0, vU64 steps1.a1, vU64 steps1.a2]), some (cellsR b5 58 [vU64 spans1.a1.a0, vU64 spans1.a1.a1])]) (shr' := []) [2, 6, 9, 11, 27, 28, 13, 12, 14, 47] [0, 1, 2, 3] [] rfl rfl rfl rfl ?_)
      rcases Bool.eq_false_or_eq_true (beyond2) with hg6 | hg6
      ·replace h := br_t hg6 h
       refine Tk_condT (congrArg (fun b => some (Value.bool b)) hg6) ?_
       refine Tk_seq (Tk_region (Tops_step rfl (OpT_build (v := .agg #[vB false, vI (0 : Int), vU64 (0 : UInt64), vU64 (0 : UInt64), vU64 (0 : UInt64)]) rfl rfl rfl rfl (bldV (by kernel_rfl))) ?_))
       refine Tops_step rfl (OpT_storeC (cs' := [vB false, vI (0 : Int), vU64 (0 : UInt64), vU64 (0 : UInt64), vU64 (0 : UInt64)]) rfl rfl rfl rfl tyF27 (i := 0) rfl rfl rfl (one_of rfl) rfl) ?_
       refine Tops_step rfl (OpT_assign rfl rfl rfl rfl) ?_
       refine Tops_step rfl (OpT_assign rfl rfl rfl rfl) ?_
       refine Tops_nil (Tk_wkS (fr' := [(6, some (.pointer (some ⟨b1, 0, none⟩))), (7, some (vU64 (0 : UInt64))), (8, some (vI (2 : Int)))]) (own' := [some (cellsR b1 27 [vB false, vI (0 : Int), vU64 (0 : UInt64), vU64 (0 : UInt64), vU64 (0 : UInt64)])]) (shr' := []) [6, 7, 8] [0] [] rfl rfl rfl rfl ?_)
       obtain rfl := Option.some.inj h
       exact Tk_retV rfl rfl (resA (vs := [.agg #[vB false, vI (0 : Int), vU64 (0 : UInt64), vU64 (0 : UInt64), vU64 (0 : UInt64)], vU64 (0 : UInt64), vI (2 : Int)]) rfl ⟨⟨_, 0, _, _, _, rfl, rfl, .inl ⟨tyF27, rfl, rfl⟩⟩, rfl, rfl, trivial⟩) [] [] rfl rfl rfl ⟨rfl, rfl, rfl⟩
      ·replace h := br_f hg6 h
       refine Tk_condF (congrArg (fun b => some (Value.bool b)) hg6) ?_
       refine Tk_skip (Tk_seq (Tk_region (Tops_step rfl (OpT_fieldC rfl rfl rfl rfl fldF27x2) ?_)))
       refine Tops_step rfl (OpT_fieldC rfl rfl rfl rfl fldF27x3) ?_
       refine Tops_step rfl (OpT_fieldC rfl rfl rfl rfl fldF27x4) ?_
       refine Tops_step rfl (OpT_build (v := .agg #[.pointer (some ⟨b2, 2, none⟩), .pointer (some ⟨b2, 3, none⟩), .pointer (some ⟨b2, 4, none⟩)]) rfl rfl rfl rfl (bldV (by kernel_rfl))) ?_
       refine Tops_step rfl (OpT_move rfl rfl rfl rfl) ?_
       refine Tops_step rfl (OpT_idxK1 (cs := [.pointer (some ⟨b2, 2, none⟩), .pointer (some ⟨b2, 3, none⟩), .pointer (some ⟨b2, 4, none⟩)]) rfl rfl rfl rfl rfl arrF65 tyF64 (by decide) rfl) ?_
       refine Tops_step rfl (OpT_move rfl rfl rfl rfl) ?_
       refine Tops_step rfl (OpT_nilCheckP rfl rfl rfl rfl) ?_
       refine Tops_step rfl (OpT_storeC (cs' := [vB packed, vI size, vU64 align1.1, vU64 align2.1, vU64 (0 : UInt64)]) rfl rfl rfl rfl tyF22 (i := 1) rfl rfl rfl (one_of rfl) rfl) ?_
       refine Tops_nil (Tk_wkS (fr' := [(2, some (vU64 base)), (6, some (.pointer (some ⟨b1, 0, none⟩))), (9, some (.pointer (some ⟨b2, 0, none⟩))), (11, some (.pointer (some ⟨b3, 0, none⟩))), (27, some (.agg #[vU64 spans1.a0.a0, vU64 spans1.a0.a1, vU64 spans1.a1.a0, vU64 spans1.a1.a1, vU64 spans1.a2.a0, vU64 spans1.a2.a1])), (28, some (vI (1 : Int))), (13, some (.pointer (some ⟨b5, 0, none⟩))), (12, some (vI (1 : Int))), (14, some (vU64 align2.1))]) (own' := [some (cellsR b1 27 [vB false, vI (0 : Int), vU64 (0 : UInt64), vU64 (0 : UInt64), vU64 (0 : UInt64)]), some (cellsR b2 27 [vB packed, vI size, vU64 align1.1, vU64 align2.1, vU64 (0 : UInt64)]), some (cellsR b3 56 [vU64 steps1.a0, vU64 steps1.a1, vU64 steps1.a2]), some (cellsR b5 58 [vU64 spans1.a1.a0, vU64 spans1.a1.a1])]) (shr' := []) [2, 6, 9, 11, 27, 28, 13, 12, 14] [0, 1, 2, 3] [] rfl rfl rfl rfl ?_)
       refine Tk_seq (Tk_region (Tops_step rfl (OpT_move rfl rfl rfl rfl) ?_))
       refine Tops_step rfl (OpT_indexC rfl rfl rfl rfl rfl arrF58 (by decide)) ?_
       refine Tops_step rfl (OpT_loadC rfl rfl rfl rfl tyF22 (i := 3) rfl rfl) ?_
       refine Tops_step rfl (OpT_bin rfl rfl rfl rfl rfl (bin_add_u64 (a := align2.1) (b := spans1.a1.a1))) ?_
       refine Tops_step rfl (OpT_assign rfl rfl rfl rfl) ?_
       refine Tops_nil (Tk_wkS (fr' := [(2, some (vU64 base)), (6, some (.pointer (some ⟨b1, 0, none⟩))), (9, some (.pointer (some ⟨b2, 0, none⟩))), (11, some (.pointer (some ⟨b3, 0, none⟩))), (27, some (.agg #[vU64 spans1.a0.a0, vU64 spans1.a0.a1, vU64 spans1.a1.a0, vU64 spans1.a1.a1, vU64 spans1.a2.a0, vU64 spans1.a2.a1])), (28, some (vI (1 : Int))), (12, some (vI (1 : Int))), (14, some (vU64 align2.1)), (10, some (vU64 (align2.1 + spans1.a1.a1)))]) (own' := [some (cellsR b1 27 [vB false, vI (0 : Int), vU64 (0 : UInt64), vU64 (0 : UInt64), vU64 (0 : UInt64)]), some (cellsR b2 27 [vB packed, vI size, vU64 align1.1, vU64 align2.1, vU64 (0 : UInt64)]), some (cellsR b3 56 [vU64 steps1.a0, vU64 steps1.a1, vU64 steps1.a2])]) (shr' := []) [2, 6, 9, 11, 27, 28, 12, 14, 10] [0, 1, 2] [] rfl rfl rfl rfl ?_)
       refine Tk_seq (Tk_region (Tops_step rfl (OpT_move rfl rfl rfl rfl) ?_))
       refine Tops_step rfl (OpT_move rfl rfl rfl rfl) ?_
       refine Tops_step rfl (OpT_bin rfl rfl rfl rfl rfl (bin_lss_u64 (a := align2.1 + spans1.a1.a1) (b := align2.1))) ?_
       refine Tops_step rfl (OpT_move rfl rfl rfl rfl) ?_
       rcases Bool.eq_false_or_eq_true (decide ((align2.1 + spans1.a1.a1) < align2.1)) with hg7 | hg7
       ·replace h := br_t hg7 h
        refine Tops_yes rfl rfl (congrArg (fun b => some (Value.bool b)) hg7) (OpT_move rfl rfl rfl rfl) ?_
        rintro _ rfl
        refine Tops_yes rfl rfl (congrArg (fun b => some (Value.bool b)) hg7) (OpT_bin rfl rfl rfl rfl rfl (bin_lss_i (a := (1 : Int)) (b := (2 : Int)))) ?_
        rintro _ rfl
        refine Tops_step rfl (OpT_pickT rfl rfl rfl (congrArg (fun b => some (Value.bool b)) hg7) rfl) ?_
        refine Tops_nil (Tk_wkS (fr' := [(2, some (vU64 base)), (6, some (.pointer (some ⟨b1, 0, none⟩))), (9, some (.pointer (some ⟨b2, 0, none⟩))), (11, some (.pointer (some ⟨b3, 0, none⟩))), (27, some (.agg #[vU64 spans1.a0.a0, vU64 spans1.a0.a1, vU64 spans1.a1.a0, vU64 spans1.a1.a1, vU64 spans1.a2.a0, vU64 spans1.a2.a1])), (28, some (vI (1 : Int))), (10, some (vU64 (align2.1 + spans1.a1.a1))), (67, some (vB true))]) (own' := [some (cellsR b1 27 [vB false, vI (0 : Int), vU64 (0 : UInt64), vU64 (0 : UInt64), vU64 (0 : UInt64)]), some (cellsR b2 27 [vB packed, vI size, vU64 align1.1, vU64 align2.1, vU64 (0 : UInt64)]), some (cellsR b3 56 [vU64 steps1.a0, vU64 steps1.a1, vU64 steps1.a2])]) (shr' := []) [2, 6, 9, 11, 27, 28, 10, 67] [0, 1, 2] [] rfl rfl rfl rfl ?_)
        refine Tk_condT rfl ?_
        refine Tk_seq (Tk_region (Tops_step rfl (OpT_build (v := .agg #[vB false, vI (0 : Int), vU64 (0 : UInt64), vU64 (0 : UInt64), vU64 (0 : UInt64)]) rfl rfl rfl rfl (bldV (by kernel_rfl))) ?_))
        refine Tops_step rfl (OpT_storeC (cs' := [vB false, vI (0 : Int), vU64 (0 : UInt64), vU64 (0 : UInt64), vU64 (0 : UInt64)]) rfl rfl rfl rfl tyF27 (i := 0) rfl rfl rfl (one_of rfl) rfl) ?_
        refine Tops_step rfl (OpT_assign rfl rfl rfl rfl) ?_
        refine Tops_step rfl (OpT_assign rfl rfl rfl rfl) ?_
        refine Tops_nil (Tk_wkS (fr' := [(6, some (.pointer (some ⟨b1, 0, none⟩))), (7, some (vU64 (0 : UInt64))), (8, some (vI (2 : Int)))]) (own' := [some (cellsR b1 27 [vB false, vI (0 : Int), vU64 (0 : UInt64), vU64 (0 : UInt64), vU64 (0 : UInt64)])]) (shr' := []) [6, 7, 8] [0] [] rfl rfl rfl rfl ?_)
        obtain rfl := Option.some.inj h
        exact Tk_retV rfl rfl (resA (vs := [.agg #[vB false, vI (0 : Int), vU64 (0 : UInt64), vU64 (0 : UInt64), vU64 (0 : UInt64)], vU64 (0 : UInt64), vI (2 : Int)]) rfl ⟨⟨_, 0, _, _, _, rfl, rfl, .inl ⟨tyF27, rfl, rfl⟩⟩, rfl, rfl, trivial⟩) [] [] rfl rfl rfl ⟨rfl, rfl, rfl⟩
       ·replace h := br_f hg7 h
        refine Tops_no rfl rfl (congrArg (fun b => some (Value.bool b)) hg7) rfl rfl ?_
        refine Tops_no rfl rfl (congrArg (fun b => some (Value.bool b)) hg7) rfl rfl ?_
        refine Tops_step rfl (OpT_pickF rfl rfl rfl (congrArg (fun b => some (Value.bool b)) hg7) rfl) ?_
        refine Tops_nil (Tk_wkS (fr' := [(2, some (vU64 base)), (6, some (.pointer (some ⟨b1, 0, none⟩))), (9, some (.pointer (some ⟨b2, 0, none⟩))), (11, some (.pointer (some ⟨b3, 0, none⟩))), (27, some (.agg #[vU64 spans1.a0.a0, vU64 spans1.a0.a1, vU64 spans1.a1.a0, vU64 spans1.a1.a1, vU64 spans1.a2.a0, vU64 spans1.a2.a1])), (28, some (vI (1 : Int))), (10, some (vU64 (align2.1 + spans1.a1.a1))), (67, some (vB false))]) (own' := [some (cellsR b1 27 [vB false, vI (0 : Int), vU64 (0 : UInt64), vU64 (0 : UInt64), vU64 (0 : UInt64)]), some (cellsR b2 27 [vB packed, vI size, vU64 align1.1, vU64 align2.1, vU64 (0 : UInt64)]), some (cellsR b3 56 [vU64 steps1.a0, vU64 steps1.a1, vU64 steps1.a2])]) (shr' := []) [2, 6, 9, 11, 27, 28, 10, 67] [0, 1, 2] [] rfl rfl rfl rfl ?_)
        refine Tk_condF rfl ?_
        refine Tk_skip (Tk_blk (Tk_region (Tops_step rfl (OpT_bin rfl rfl rfl rfl rfl (bin_add_i (a := (1 : Int)) (b := (1 : Int)))) ?_)))
        refine Tops_step rfl (OpT_move rfl rfl rfl rfl) ?_
        refine Tops_nil (Tk_wkS (fr' := [(2, some (vU64 base)), (6, some (.pointer (some ⟨b1, 0, none⟩))), (9, some (.pointer (some ⟨b2, 0, none⟩))), (11, some (.pointer (some ⟨b3, 0, none⟩))), (27, some (.agg #[vU64 spans1.a0.a0, vU64 spans1.a0.a1, vU64 spans1.a1.a0, vU64 spans1.a1.a1, vU64 spans1.a2.a0, vU64 spans1.a2.a1])), (28, some (vI (2 : Int))), (10, some (vU64 (align2.1 + spans1.a1.a1)))]) (own' := [some (cellsR b1 27 [vB false, vI (0 : Int), vU64 (0 : UInt64), vU64 (0 : UInt64), vU64 (0 : UInt64)]), some (cellsR b2 27 [vB packed, vI size, vU64 align1.1, vU64 align2.1, vU64 (0 : UInt64)]), some (cellsR b3 56 [vU64 steps1.a0, vU64 steps1.a1, vU64 steps1.a2])]) (shr' := []) [2, 6, 9, 11, 27, 28, 10] [0, 1, 2] [] rfl rfl rfl rfl ?_)
        refine Tk_round ?_
        refine Tk_seq (Tk_region (Tops_step rfl (OpT_bin rfl rfl rfl rfl rfl (bin_lss_i (a := (2 : Int)) (b := (3 : Int)))) ?_))
        refine Tops_nil (Tk_seq (Tk_condT rfl ?_))
        refine Tk_skip (Tk_seq (Tk_block (Tk_seq (Tk_region (Tops_step rfl (OpT_move rfl rfl rfl rfl) ?_)))))
        refine Tops_step rfl (OpT_idxKA (cs := [vU64 spans1.a0.a0, vU64 spans1.a0.a1, vU64 spans1.a1.a0, vU64 spans1.a1.a1, vU64 spans1.a2.a0, vU64 spans1.a2.a1]) (vs := [vU64 spans1.a2.a0, vU64 spans1.a2.a1]) rfl rfl rfl rfl rfl arrF59 tyF58 (by decide) rfl) ?_
        refine Tops_ex rfl (OpT_alloc rfl rfl rfl tyZ58) fun b6 => ?_
        refine Tops_step rfl (OpT_assign rfl rfl rfl rfl) ?_
        refine Tops_step rfl (OpT_storeC (cs' := [vU64 spans1.a2.a0, vU64 spans1.a2.a1]) rfl rfl rfl rfl tyF58 (i := 3) rfl rfl rfl (one_of rfl) rfl) ?_
        refine Tops_nil (Tk_wkS (fr' := [(2, some (vU64 base)), (6, some (.pointer (some ⟨b1, 0, none⟩))), (9, some (.pointer (some ⟨b2, 0, none⟩))), (11, some (.pointer (some ⟨b3, 0, none⟩))), (27, some (.agg #[vU64 spans1.a0.a0, vU64 spans1.a0.a1, vU64 spans1.a1.a0, vU64 spans1.a1.a1, vU64 spans1.a2.a0, vU64 spans1.a2.a1])), (28, some (vI (2 : Int))), (10, some (vU64 (align2.1 + spans1.a1.a1))), (13, some (.pointer (some ⟨b6, 0, none⟩))), (12, some (vI (2 : Int)))]) (own' := [some (cellsR b1 27 [vB false, vI (0 : Int), vU64 (0 : UInt64), vU64 (0 : UInt64), vU64 (0 : UInt64)]), some (cellsR b2 27 [vB packed, vI size, vU64 align1.1, vU64 align2.1, vU64 (0 : UInt64)]), some (cellsR b3 56 [vU64 steps1.a0, vU64 steps1.a1, vU64 steps1.a2]), some (cellsR b6 58 [vU64 spans1.a2.a0, vU64 spans1.a2.a1])]) (shr' := []) [2, 6, 9, 11, 27, 28, 10, 13, 12] [0, 1, 2, 3] [] rfl rfl rfl rfl ?_)
        refine Tk_seq (Tk_region (Tops_step rfl (OpT_move rfl rfl rfl rfl) ?_))
        refine Tops_step rfl (OpT_move rfl rfl rfl rfl) ?_
        refine Tops_step rfl (OpT_indexC rfl rfl rfl rfl rfl arrF56 (by decide)) ?_
        refine Tops_step rfl (OpT_loadC rfl rfl rfl rfl tyF22 (i := 2) rfl rfl) ?_
        obtain ⟨align3, hx8, h⟩ := ob_e h
        refine Tops_exP rfl (OpT_call (w_serial_Align hx8) [] [] rfl rfl rfl rfl rfl callee30 rfl rfl rfl rfl) ?_
        rintro _ ⟨_, _, _, ⟨rfl, rfl, rfl⟩, rfl⟩
        refine Tops_step rfl (OpT_move rfl rfl rfl rfl) ?_
        refine Tops_step rfl (OpT_extract rfl rfl rfl rfl rfl) ?_
        refine Tops_step rfl (OpT_extract rfl rfl rfl rfl rfl) ?_
        refine Tops_step rfl (OpT_assign rfl rfl rfl rfl) ?_
        refine Tops_step rfl (OpT_assign rfl rfl rfl rfl) ?_
        refine Tops_nil (Tk_wkS (fr' := [(2, some (vU64 base)), (6, some (.pointer (some ⟨b1, 0, none⟩))), (9, some (.pointer (some ⟨b2, 0, none⟩))), (11, some (.pointer (some ⟨b3, 0, none⟩))), (27, some (.agg #[vU64 spans1.a0.a0, vU64 spans1.a0.a1, vU64 spans1.a1.a0, vU64 spans1.a1.a1, vU64 spans1.a2.a0, vU64 spans1.a2.a1])), (28, some (vI (2 : Int))), (13, some (.pointer (some ⟨b6, 0, none⟩))), (12, some (vI (2 : Int))), (14, some (vU64 align3.1)), (15, some (vI align3.2))]) (own' := [some (cellsR b1 27 [vB false, vI (0 : Int), vU64 (0 : UInt64), vU64 (0 : UInt64), vU64 (0 : UInt64)]), some (cellsR b2 27 [vB packed, vI size, vU64 align1.1, vU64 align2.1, vU64 (0 : UInt64)]), some (cellsR b3 56 [vU64 steps1.a0, vU64 steps1.a1, vU64 steps1.a2]), some (cellsR b6 58 [vU64 spans1.a2.a0, vU64 spans1.a2.a1])]) (shr' := []) [2, 6, 9, 11, 27, 28, 13, 12, 14, 15] [0, 1, 2, 3] [] rfl rfl rfl rfl ?_)
        refine Tk_seq (Tk_seq (Tk_region (Tops_step rfl (OpT_move rfl rfl rfl rfl) ?_)))
        refine Tops_step rfl (OpT_bin rfl rfl rfl rfl rfl (bin_neq_i (a := align3.2) (b := (0 : Int)))) ?_
        refine Tops_step rfl (OpT_move rfl rfl rfl rfl) ?_
        rcases Bool.eq_false_or_eq_true (align3.2 != (0 : Int)) with hg8 | hg8
        ·replace h := br_t hg8 h
         refine Tops_no rfl rfl (congrArg (fun b => some (Value.bool b)) hg8) rfl rfl ?_
         refine Tops_no rfl rfl (congrArg (fun b => some (Value.bool b)) hg8) rfl rfl ?_
         refine Tops_no rfl rfl (congrArg (fun b => some (Value.bool b)) hg8) rfl rfl ?_
         refine Tops_no rfl rfl (congrArg (fun b => some (Value.bool b)) hg8) rfl rfl ?_
         refine Tops_step rfl (OpT_pickT rfl rfl rfl (congrArg (fun b => some (Value.bool b)) hg8) rfl) ?_
         refine Tops_nil (Tk_wkS (fr' := [(2, some (vU64 base)), (6, some (.pointer (some ⟨b1, 0, none⟩))), (9, some (.pointer (some ⟨b2, 0, none⟩))), (11, some (.pointer (some ⟨b3, 0, none⟩))), (27, some (.agg #[vU64 spans1.a0.a0, vU64 spans1.a0.a1, vU64 spans1.a1.a0, vU64 spans1.a1.a1, vU64 spans1.a2.a0, vU64 spans1.a2.a1])), (28, some (vI (2 : Int))), (13, some (.pointer (some ⟨b6, 0, none⟩))), (12, some (vI (2 : Int))), (14, some (vU64 align3.1)), (47, some (vB true))]) (own' := [some (cellsR b1 27 [vB false, vI (0 : Int), vU64 (0 : UInt64), vU64 (0 : UInt64), vU64 (0 : UInt64)]), some (cellsR b2 27 [vB packed, vI size, vU64 align1.1, vU64 align2.1, vU64 (0 : UInt64)]), some (cellsR b3 56 [vU64 steps1.a0, vU64 steps1.a1, vU64 steps1.a2]), some (cellsR b6 58 [vU64 spans1.a2.a0, vU64 spans1.a2.a1])]) (shr' := []) [2, 6, 9, 11, 27, 28, 13, 12, 14, 47] [0, 1, 2, 3] [] rfl rfl rfl rfl ?_)
         refine Tk_condT rfl ?_
         refine Tk_seq (Tk_region (Tops_step rfl (OpT_build (v := .agg #[vB false, vI (0 : Int), vU64 (0 : UInt64), vU64 (0 : UInt64), vU64 (0 : UInt64)]) rfl rfl rfl rfl (bldV (by kernel_rfl))) ?_))
         refine Tops_step rfl (OpT_storeC (cs' := [vB false, vI (0 : Int), vU64 (0 : UInt64), vU64 (0 : UInt64), vU64 (0 : UInt64)]) rfl rfl rfl rfl tyF27 (i := 0) rfl rfl rfl (one_of rfl) rfl) ?_
         refine Tops_step rfl (OpT_assign rfl rfl rfl rfl) ?_
         refine Tops_step rfl (OpT_assign rfl rfl rfl rfl) ?_
         refine Tops_nil (Tk_wkS (fr' := [(6, some (.pointer (some ⟨b1, 0, none⟩))), (7, some (vU64 (0 : UInt64))), (8, some (vI (2 : Int)))]) (own' := [some (cellsR b1 27 [vB false, vI (0 : Int), vU64 (0 : UInt64), vU64 (0 : UInt64), vU64 (0 : UInt64)])]) (shr' := []) [6, 7, 8] [0] [] rfl rfl rfl rfl ?_)
         obtain rfl := Option.some.inj h
         exact Tk_retV rfl rfl (resA (vs := [.agg #[vB false, vI (0 : Int), vU64 (0 : UInt64), vU64 (0 : UInt64), vU64 (0 : UInt64)], vU64 (0 : UInt64), vI (2 : Int)]) rfl ⟨⟨_, 0, _, _, _, rfl, rfl, .inl ⟨tyF27, rfl, rfl⟩⟩, rfl, rfl, trivial⟩) [] [] rfl rfl rfl ⟨rfl, rfl, rfl⟩
        ·replace h := br_f hg8 h
         refine Tops_yes rfl rfl (congrArg (fun b => some (Value.bool b)) hg8) (OpT_move rfl rfl rfl rfl) ?_
         rintro _ rfl
         refine Tops_yes rfl rfl (congrArg (fun b => some (Value.bool b)) hg8) (OpT_indexC rfl rfl rfl rfl rfl arrF58 (by decide)) ?_
         rintro _ rfl
         refine Tops_yes rfl rfl (congrArg (fun b => some (Value.bool b)) hg8) (OpT_loadC rfl rfl rfl rfl tyF22 (i := 3) rfl rfl) ?_
         rintro _ rfl
         obtain ⟨beyond3, hx9, h⟩ := ob_e h
         refine Tops_yes rfl rfl (congrArg (fun b => some (Value.bool b)) hg8) (OpT_call (w_layout_beyond hx9) [] [] rfl rfl rfl rfl rfl callee31 rfl rfl rfl rfl) ?_
         rintro _ ⟨_, _, _, ⟨rfl, rfl, rfl⟩, rfl⟩
         refine Tops_step rfl (OpT_pickF rfl rfl rfl (congrArg (fun b => some (Value.bool b)) hg8) rfl) ?_
         refine Tops_nil (Tk_wkS (fr' := [(2, some (vU64 base)), (6, some (.pointer (some ⟨b1, 0, none⟩))), (9, some (.pointer (some ⟨b2, 0, none⟩))), (11, some (.pointer (some ⟨b3, 0, none⟩))), (27, some (.agg #[vU64 spans1.a0.a0, vU64 spans1.a0.a1, vU64 spans1.a1.a0, vU64 spans1.a1.a1, vU64 spans1.a2.a0, vU64 spans1.a2.a1])), (28, some (vI (2 : Int))), (13, some (.pointer (some ⟨b6, 0, none⟩))), (12, some (vI (2 : Int))), (14, some (vU64 align3.1)), (47, some (vB beyond3))]) (own' := [some (cellsR b1 27 [vB false, vI (0 : Int), vU64 (0 : UInt64), vU64 (0 : UInt64), vU64 (0 : UInt64)]), some (cellsR b2 27 [vB packed, vI size, vU64 align1.1, vU64 align2.1, vU64 (0 : UInt64)]), some (cellsR b3 56 [vU64 steps1.a0, vU64 steps1.a1, vU64 steps1.a2]), some (cellsR b6 58 [vU64 spans1.a2.a0, vU64 spans1.a2.a1])]) (shr' := []) [2, 6, 9, 11, 27, 28, 13, 12, 14, 47] [0, 1, 2, 3] [] rfl rfl rfl rfl ?_)
         rcases Bool.eq_false_or_eq_true (beyond3) with hg9 | hg9
         ·replace h := br_t hg9 h
          refine Tk_condT (congrArg (fun b => some (Value.bool b)) hg9) ?_
          refine Tk_seq (Tk_region (Tops_step rfl (OpT_build (v := .agg #[vB false, vI (0 : Int), vU64 (0 : UInt64), vU64 (0 : UInt64), vU64 (0 : UInt64)]) rfl rfl rfl rfl (bldV (by kernel_rfl))) ?_))
          refine Tops_step rfl (OpT_storeC (cs' := [vB false, vI (0 : Int), vU64 (0 : UInt64), vU64 (0 : UInt64), vU64 (0 : UInt64)]) rfl rfl rfl rfl tyF27 (i := 0) rfl rfl rfl (one_of rfl) rfl) ?_
          refine Tops_step rfl (OpT_assign rfl rfl rfl rfl) ?_
          refine Tops_step rfl (OpT_assign rfl rfl rfl rfl) ?_
          refine Tops_nil (Tk_wkS (fr' := [(6, some (.pointer (some ⟨b1, 0, none⟩))), (7, some (vU64 (0 : UInt64))), (8, some (vI (2 : Int)))]) (own' := [some (cellsR b1 27 [vB false, vI (0 : Int), vU64 (0 : UInt64), vU64 (0 : UInt64), vU64 (0 : UInt64)])]) (shr' := []) [6, 7, 8] [0] [] rfl rfl rfl rfl ?_)
          obtain rfl := Option.some.inj h
          exact Tk_retV rfl rfl (resA (vs := [.agg #[vB false, vI (0 : Int), vU64 (0 : UInt64), vU64 (0 : UInt64), vU64 (0 : UInt64)], vU64 (0 : UInt64), vI (2 : Int)]) rfl ⟨⟨_, 0, _, _, _, rfl, rfl, .inl ⟨tyF27, rfl, rfl⟩⟩, rfl, rfl, trivial⟩) [] [] rfl rfl rfl ⟨rfl, rfl, rfl⟩
         ·replace h := br_f hg9 h
          refine Tk_condF (congrArg (fun b => some (Value.bool b)) hg9) ?_
          refine Tk_skip (Tk_seq (Tk_region (Tops_step rfl (OpT_fieldC rfl rfl rfl rfl fldF27x2) ?_)))
          refine Tops_step rfl (OpT_fieldC rfl rfl rfl rfl fldF27x3) ?_
          refine Tops_step rfl (OpT_fieldC rfl rfl rfl rfl fldF27x4) ?_
          refine Tops_step rfl (OpT_build (v := .agg #[.pointer (some ⟨b2, 2, none⟩), .pointer (some ⟨b2, 3, none⟩), .pointer (some ⟨b2, 4, none⟩)]) rfl rfl rfl rfl (bldV (by kernel_rfl))) ?_
          refine Tops_step rfl (OpT_move rfl rfl rfl rfl) ?_
          refine Tops_step rfl (OpT_idxK1 (cs := [.pointer (some ⟨b2, 2, none⟩), .pointer (some ⟨b2, 3, none⟩), .pointer (some ⟨b2, 4, none⟩)]) rfl rfl rfl rfl rfl arrF65 tyF64 (by decide) rfl) ?_
          refine Tops_step rfl (OpT_move rfl rfl rfl rfl) ?_
          refine Tops_step rfl (OpT_nilCheckP rfl rfl rfl rfl) ?_
          refine Tops_step rfl (OpT_storeC (cs' := [vB packed, vI size, vU64 align1.1, vU64 align2.1, vU64 align3.1]) rfl rfl rfl rfl tyF22 (i := 1) rfl rfl rfl (one_of rfl) rfl) ?_
          refine Tops_nil (Tk_wkS (fr' := [(2, some (vU64 base)), (6, some (.pointer (some ⟨b1, 0, none⟩))), (9, some (.pointer (some ⟨b2, 0, none⟩))), (11, some (.pointer (some ⟨b3, 0, none⟩))), (27, some (.agg #[vU64 spans1.a0.a0, vU64 spans1.a0.a1, vU64 spans1.a1.a0, vU64 spans1.a1.a1, vU64 spans1.a2.a0, vU64 spans1.a2.a1])), (28, some (vI (2 : Int))), (13, some (.pointer (some ⟨b6, 0, none⟩))), (12, some (vI (2 : Int))), (14, some (vU64 align3.1))]) (own' := [some (cellsR b1 27 [vB false, vI (0 : Int), vU64 (0 : UInt64), vU64 (0 : UInt64), vU64 (0 : UInt64)]), some (cellsR b2 27 [vB packed, vI size, vU64 align1.1, vU64 align2.1, vU64 align3.1]), some (cellsR b3 56 [vU64 steps1.a0, vU64 steps1.a1, vU64 steps1.a2]), some (cellsR b6 58 [vU64 spans1.a2.a0, vU64 spans1.a2.a1])]) (shr' := []) [2, 6, 9, 11, 27, 28, 13, 12, 14] [0, 1, 2, 3] [] rfl rfl rfl rfl ?_)
          refine Tk_seq (Tk_region (Tops_step rfl (OpT_move rfl rfl rfl rfl) ?_))
          refine Tops_step rfl (OpT_indexC rfl rfl rfl rfl rfl arrF58 (by decide)) ?_
          refine Tops_step rfl (OpT_loadC rfl rfl rfl rfl tyF22 (i := 3) rfl rfl) ?_
          refine Tops_step rfl (OpT_bin rfl rfl rfl rfl rfl (bin_add_u64 (a := align3.1) (b := spans1.a2.a1))) ?_
          refine Tops_step rfl (OpT_assign rfl rfl rfl rfl) ?_
          refine Tops_nil (Tk_wkS (fr' := [(2, some (vU64 base)), (6, some (.pointer (some ⟨b1, 0, none⟩))), (9, some (.pointer (some ⟨b2, 0, none⟩))), (11, some (.pointer (some ⟨b3, 0, none⟩))), (27, some (.agg #[vU64 spans1.a0.a0, vU64 spans1.a0.a1, vU64 spans1.a1.a0, vU64 spans1.a1.a1, vU64 spans1.a2.a0, vU64 spans1.a2.a1])), (28, some (vI (2 : Int))), (12, some (vI (2 : Int))), (14, some (vU64 align3.1)), (10, some (vU64 (align3.1 + spans1.a2.a1)))]) (own' := [some (cellsR b1 27 [vB false, vI (0 : Int), vU64 (0 : UInt64), vU64 (0 : UInt64), vU64 (0 : UInt64)]), some (cellsR b2 27 [vB packed, vI size, vU64 align1.1, vU64 align2.1, vU64 align3.1]), some (cellsR b3 56 [vU64 steps1.a0, vU64 steps1.a1, vU64 steps1.a2])]) (shr' := []) [2, 6, 9, 11, 27, 28, 12, 14, 10] [0, 1, 2] [] rfl rfl rfl rfl ?_)
          refine Tk_seq (Tk_region (Tops_step rfl (OpT_move rfl rfl rfl rfl) ?_))
          refine Tops_step rfl (OpT_move rfl rfl rfl rfl) ?_
          refine Tops_step rfl (OpT_bin rfl rfl rfl rfl rfl (bin_lss_u64 (a := align3.1 + spans1.a2.a1) (b := align3.1))) ?_
          refine Tops_step rfl (OpT_move rfl rfl rfl rfl) ?_
          rcases Bool.eq_false_or_eq_true (decide ((align3.1 + spans1.a2.a1) < align3.1)) with hg10 | hg10
          ·replace h := br_t hg10 h
           refine Tops_yes rfl rfl (congrArg (fun b => some (Value.bool b)) hg10) (OpT_move rfl rfl rfl rfl) ?_
           rintro _ rfl
           refine Tops_yes rfl rfl (congrArg (fun b => some (Value.bool b)) hg10) (OpT_bin rfl rfl rfl rfl rfl (bin_lss_i (a := (2 : Int)) (b := (2 : Int)))) ?_
           rintro _ rfl
           refine Tops_step rfl (OpT_pickT rfl rfl rfl (congrArg (fun b => some (Value.bool b)) hg10) rfl) ?_
           refine Tops_nil (Tk_wkS (fr' := [(2, some (vU64 base)), (6, some (.pointer (some ⟨b1, 0, none⟩))), (9, some (.pointer (some ⟨b2, 0, none⟩))), (11, some (.pointer (some ⟨b3, 0, none⟩))), (27, some (.agg #[vU64 spans1.a0.a0, vU64 spans1.a0.a1, vU64 spans1.a1.a0, vU64 spans1.a1.a1, vU64 spans1.a2.a0, vU64 spans1.a2.a1])), (28, some (vI (2 : Int))), (10, some (vU64 (align3.1 + spans1.a2.a1))), (67, some (vB false))]) (own' := [some (cellsR b1 27 [vB false, vI (0 : Int), vU64 (0 : UInt64), vU64 (0 : UInt64), vU64 (0 : UInt64)]), some (cellsR b2 27 [vB packed, vI size, vU64 align1.1, vU64 align2.1, vU64 align3.1]), some (cellsR b3 56 [vU64 steps1.a0, vU64 steps1.a1, vU64 steps1.a2])]) (shr' := []) [2, 6, 9, 11, 27, 28, 10, 67] [0, 1, 2] [] rfl rfl rfl rfl ?_)
           refine Tk_condF rfl ?_
           refine Tk_skip (Tk_blk (Tk_region (Tops_step rfl (OpT_bin rfl rfl rfl rfl rfl (bin_add_i (a := (2 : Int)) (b := (1 : Int)))) ?_)))
           refine Tops_step rfl (OpT_move rfl rfl rfl rfl) ?_
           refine Tops_nil (Tk_wkS (fr' := [(2, some (vU64 base)), (6, some (.pointer (some ⟨b1, 0, none⟩))), (9, some (.pointer (some ⟨b2, 0, none⟩))), (11, some (.pointer (some ⟨b3, 0, none⟩))), (27, some (.agg #[vU64 spans1.a0.a0, vU64 spans1.a0.a1, vU64 spans1.a1.a0, vU64 spans1.a1.a1, vU64 spans1.a2.a0, vU64 spans1.a2.a1])), (28, some (vI (3 : Int))), (10, some (vU64 (align3.1 + spans1.a2.a1)))]) (own' := [some (cellsR b1 27 [vB false, vI (0 : Int), vU64 (0 : UInt64), vU64 (0 : UInt64), vU64 (0 : UInt64)]), some (cellsR b2 27 [vB packed, vI size, vU64 align1.1, vU64 align2.1, vU64 align3.1]), some (cellsR b3 56 [vU64 steps1.a0, vU64 steps1.a1, vU64 steps1.a2])]) (shr' := []) [2, 6, 9, 11, 27, 28, 10] [0, 1, 2] [] rfl rfl rfl rfl ?_)
           refine Tk_round ?_
           refine Tk_seq (Tk_region (Tops_step rfl (OpT_bin rfl rfl rfl rfl rfl (bin_lss_i (a := (3 : Int)) (b := (3 : Int)))) ?_))
           refine Tops_nil (Tk_seq (Tk_condF rfl ?_))
           refine Tk_exit _ rfl ?_
           refine Tk_seq (Tk_region (Tops_step rfl (OpT_loadCA (vs := [vB packed, vI size, vU64 align1.1, vU64 align2.1, vU64 align3.1]) rfl rfl rfl rfl tyF27 (i := 1) rfl rfl rfl) ?_))
           refine Tops_step rfl (OpT_move rfl rfl rfl rfl) ?_
           refine Tops_step rfl (OpT_move rfl rfl rfl rfl) ?_
           refine Tops_step rfl (OpT_bin rfl rfl rfl rfl rfl (bin_sub_u64 (a := align3.1 + spans1.a2.a1) (b := base))) ?_
           refine Tops_step rfl (OpT_storeC (cs' := [vB packed, vI size, vU64 align1.1, vU64 align2.1, vU64 align3.1]) rfl rfl rfl rfl tyF27 (i := 0) rfl rfl rfl (one_of rfl) rfl) ?_
           refine Tops_step rfl (OpT_assign rfl rfl rfl rfl) ?_
           refine Tops_step rfl (OpT_assign rfl rfl rfl rfl) ?_
           refine Tops_nil (Tk_wkS (fr' := [(6, some (.pointer (some ⟨b1, 0, none⟩))), (7, some (vU64 ((align3.1 + spans1.a2.a1) - base))), (8, some (vI (0 : Int)))]) (own' := [some (cellsR b1 27 [vB packed, vI size, vU64 align1.1, vU64 align2.1, vU64 align3.1])]) (shr' := []) [6, 7, 8] [0] [] rfl rfl rfl rfl ?_)
           obtain rfl := Option.some.inj h
           exact Tk_retV rfl rfl (resA (vs := [.agg #[vB packed, vI size, vU64 align1.1, vU64 align2.1, vU64 align3.1], vU64 ((align3.1 + spans1.a2.a1) - base), vI (0 : Int)]) rfl ⟨⟨_, 0, _, _, _, rfl, rfl, .inl ⟨tyF27, rfl, rfl⟩⟩, rfl, rfl, trivial⟩) [] [] rfl rfl rfl ⟨rfl, rfl, rfl⟩
          ·replace h := br_f hg10 h
           refine Tops_no rfl rfl (congrArg (fun b => some (Value.bool b)) hg10) rfl rfl ?_
           refine Tops_no rfl rfl (congrArg (fun b => some (Value.bool b)) hg10) rfl rfl ?_
           refine Tops_step rfl (OpT_pickF rfl rfl rfl (congrArg (fun b => some (Value.bool b)) hg10) rfl) ?_
           refine Tops_nil (Tk_wkS (fr' := [(2, some (vU64 base)), (6, some (.pointer (some ⟨b1, 0, none⟩))), (9, some (.pointer (some ⟨b2, 0, none⟩))), (11, some (.pointer (some ⟨b3, 0, none⟩))), (27, some (.agg #[vU64 spans1.a0.a0, vU64 spans1.a0.a1, vU64 spans1.a1.a0, vU64 spans1.a1.a1, vU64 spans1.a2.a0, vU64 spans1.a2.a1])), (28, some (vI (2 : Int))), (10, some (vU64 (align3.1 + spans1.a2.a1))), (67, some (vB false))]) (own' := [some (cellsR b1 27 [vB false, vI (0 : Int), vU64 (0 : UInt64), vU64 (0 : UInt64), vU64 (0 : UInt64)]), some (cellsR b2 27 [vB packed, vI size, vU64 align1.1, vU64 align2.1, vU64 align3.1]), some (cellsR b3 56 [vU64 steps1.a0, vU64 steps1.a1, vU64 steps1.a2])]) (shr' := []) [2, 6, 9, 11, 27, 28, 10, 67] [0, 1, 2] [] rfl rfl rfl rfl ?_)
           refine Tk_condF rfl ?_
           refine Tk_skip (Tk_blk (Tk_region (Tops_step rfl (OpT_bin rfl rfl rfl rfl rfl (bin_add_i (a := (2 : Int)) (b := (1 : Int)))) ?_)))
           refine Tops_step rfl (OpT_move rfl rfl rfl rfl) ?_
           refine Tops_nil (Tk_wkS (fr' := [(2, some (vU64 base)), (6, some (.pointer (some ⟨b1, 0, none⟩))), (9, some (.pointer (some ⟨b2, 0, none⟩))), (11, some (.pointer (some ⟨b3, 0, none⟩))), (27, some (.agg #[vU64 spans1.a0.a0, vU64 spans1.a0.a1, vU64 spans1.a1.a0, vU64 spans1.a1.a1, vU64 spans1.a2.a0, vU64 spans1.a2.a1])), (28, some (vI (3 : Int))), (10, some (vU64 (align3.1 + spans1.a2.a1)))]) (own' := [some (cellsR b1 27 [vB false, vI (0 : Int), vU64 (0 : UInt64), vU64 (0 : UInt64), vU64 (0 : UInt64)]), some (cellsR b2 27 [vB packed, vI size, vU64 align1.1, vU64 align2.1, vU64 align3.1]), some (cellsR b3 56 [vU64 steps1.a0, vU64 steps1.a1, vU64 steps1.a2])]) (shr' := []) [2, 6, 9, 11, 27, 28, 10] [0, 1, 2] [] rfl rfl rfl rfl ?_)
           refine Tk_round ?_
           refine Tk_seq (Tk_region (Tops_step rfl (OpT_bin rfl rfl rfl rfl rfl (bin_lss_i (a := (3 : Int)) (b := (3 : Int)))) ?_))
           refine Tops_nil (Tk_seq (Tk_condF rfl ?_))
           refine Tk_exit _ rfl ?_
           refine Tk_seq (Tk_region (Tops_step rfl (OpT_loadCA (vs := [vB packed, vI size, vU64 align1.1, vU64 align2.1, vU64 align3.1]) rfl rfl rfl rfl tyF27 (i := 1) rfl rfl rfl) ?_))
           refine Tops_step rfl (OpT_move rfl rfl rfl rfl) ?_
           refine Tops_step rfl (OpT_move rfl rfl rfl rfl) ?_
           refine Tops_step rfl (OpT_bin rfl rfl rfl rfl rfl (bin_sub_u64 (a := align3.1 + spans1.a2.a1) (b := base))) ?_
           refine Tops_step rfl (OpT_storeC (cs' := [vB packed, vI size, vU64 align1.1, vU64 align2.1, vU64 align3.1]) rfl rfl rfl rfl tyF27 (i := 0) rfl rfl rfl (one_of rfl) rfl) ?_
           refine Tops_step rfl (OpT_assign rfl rfl rfl rfl) ?_
           refine Tops_step rfl (OpT_assign rfl rfl rfl rfl) ?_
           refine Tops_nil (Tk_wkS (fr' := [(6, some (.pointer (some ⟨b1, 0, none⟩))), (7, some (vU64 ((align3.1 + spans1.a2.a1) - base))), (8, some (vI (0 : Int)))]) (own' := [some (cellsR b1 27 [vB packed, vI size, vU64 align1.1, vU64 align2.1, vU64 align3.1])]) (shr' := []) [6, 7, 8] [0] [] rfl rfl rfl rfl ?_)
           obtain rfl := Option.some.inj h
           exact Tk_retV rfl rfl (resA (vs := [.agg #[vB packed, vI size, vU64 align1.1, vU64 align2.1, vU64 align3.1], vU64 ((align3.1 + spans1.a2.a1) - base), vI (0 : Int)]) rfl ⟨⟨_, 0, _, _, _, rfl, rfl, .inl ⟨tyF27, rfl, rfl⟩⟩, rfl, rfl, trivial⟩) [] [] rfl rfl rfl ⟨rfl, rfl, rfl⟩

set_option maxRecDepth 100000 in
set_option maxHeartbeats 4000000 in
theorem w_layout_common {atp0 : UInt64} {np1 : UInt64} {top2 : UInt64} {m : UInt64} {r : Bool} (h : layout_common atp0 np1 top2 m = some r) :
  Ctr Try.prog 32 #[vU64 atp0, vU64 np1, vU64 top2, vU64 m] [] []
   (fun rv own shr => rv = vB r ∧ own = [] ∧ shr = []) := by
 unfold layout_common at h
 refine Ctr.mk (args := [vU64 atp0, vU64 np1, vU64 top2, vU64 m]) Try.func32 rfl rfl (fun R0 w0 B => ?_)
 refine Tk_seq (Tk_region (Tops_step rfl (OpT_assign rfl rfl rfl rfl) ?_))
 refine Tops_nil (Tk_wkS (fr' := [(0, some (vU64 atp0)), (1, some (vU64 np1)), (2, some (vU64 top2)), (3, some (vU64 m))]) (own' := []) (shr' := []) [0, 1, 2, 3] [] [] rfl rfl rfl rfl ?_)
 refine Tk_seq (Tk_seq (Tk_region (Tops_step rfl (OpT_move rfl rfl rfl rfl) ?_)))
 refine Tops_step rfl (OpT_move rfl rfl rfl rfl) ?_
 refine Tops_step rfl (OpT_bin rfl rfl rfl rfl rfl (bin_leq_u64 (a := atp0) (b := top2))) ?_
 refine Tops_nil (Tk_wkS (fr' := [(0, some (vU64 atp0)), (1, some (vU64 np1)), (2, some (vU64 top2)), (3, some (vU64 m)), (11, some (vB (decide (atp0 ≤ top2))))]) (own' := []) (shr' := []) [0, 1, 2, 3, 11] [] [] rfl rfl rfl rfl ?_)
 rcases Bool.eq_false_or_eq_true (decide (atp0 ≤ top2)) with hg1 | hg1
 ·replace h := br_t hg1 h
  refine Tk_condT (congrArg (fun b => some (Value.bool b)) hg1) ?_
  refine Tk_seq (Tk_region (Tops_step rfl (OpT_move rfl rfl rfl rfl) ?_))
  refine Tops_step rfl (OpT_move rfl rfl rfl rfl) ?_
  refine Tops_step rfl (OpT_bin rfl rfl rfl rfl rfl (bin_sub_u64 (a := top2) (b := atp0))) ?_
  refine Tops_step rfl (OpT_move rfl rfl rfl rfl) ?_
  refine Tops_step rfl (OpT_bin rfl rfl rfl rfl rfl (bin_lss_u64 (a := top2 - atp0) (b := np1))) ?_
  refine Tops_step rfl (OpT_assign rfl rfl rfl rfl) ?_
  refine Tops_nil (Tk_wkS (fr' := [(8, some (vB (decide ((top2 - atp0) < np1))))]) (own' := []) (shr' := []) [8] [] [] rfl rfl rfl rfl ?_)
  obtain rfl := Option.some.inj h
  exact Tk_retV rfl rfl (resA (vs := [vB (decide ((top2 - atp0) < np1))]) rfl ⟨rfl, trivial⟩) [] [] rfl rfl rfl ⟨rfl, rfl, rfl⟩
 ·replace h := br_f hg1 h
  refine Tk_condF (congrArg (fun b => some (Value.bool b)) hg1) ?_
  refine Tk_skip (Tk_seq (Tk_region (Tops_step rfl (OpT_move rfl rfl rfl rfl) ?_)))
  refine Tops_step rfl (OpT_move rfl rfl rfl rfl) ?_
  refine Tops_step rfl (OpT_bin rfl rfl rfl rfl rfl (bin_sub_u64 (a := atp0) (b := top2))) ?_
  refine Tops_step rfl (OpT_move rfl rfl rfl rfl) ?_
  refine Tops_step rfl (OpT_bin rfl rfl rfl rfl rfl (bin_lss_u64 (a := atp0 - top2) (b := m))) ?_
  refine Tops_step rfl (OpT_assign rfl rfl rfl rfl) ?_
  refine Tops_nil (Tk_wkS (fr' := [(8, some (vB (decide ((atp0 - top2) < m))))]) (own' := []) (shr' := []) [8] [] [] rfl rfl rfl rfl ?_)
  obtain rfl := Option.some.inj h
  exact Tk_retV rfl rfl (resA (vs := [vB (decide ((atp0 - top2) < m))]) rfl ⟨rfl, trivial⟩) [] [] rfl rfl rfl ⟨rfl, rfl, rfl⟩

set_option maxRecDepth 100000 in
set_option maxHeartbeats 4000000 in
theorem w_layout_Check {rp0 : Rings} {r : Int} (h : layout_Check rp0 = some r) :
  Ctr Try.prog 13 #[.agg #[vB rp0.Packed, vI rp0.Size, vU64 rp0.Desc, vU64 rp0.Driver, vU64 rp0.Device]] [] []
   (fun rv own shr => rv = vI r ∧ own = [] ∧ shr = []) := by
 unfold layout_Check at h
 refine Ctr.mk (args := [.agg #[vB rp0.Packed, vI rp0.Size, vU64 rp0.Desc, vU64 rp0.Driver, vU64 rp0.Device]]) Try.func13 rfl rfl (fun R0 w0 B => ?_)
 refine Tk_seq (Tk_region (Tops_ex rfl (OpT_box rfl rfl rfl rfl) fun b1 => ?_))
 refine Tops_step rfl (OpT_assign rfl rfl rfl rfl) ?_
 refine Tops_nil (Tk_wkS (fr' := [(1, some (.pointer (some ⟨b1, 0, none⟩)))]) (own' := [some (cellsR b1 27 [vB rp0.Packed, vI rp0.Size, vU64 rp0.Desc, vU64 rp0.Driver, vU64 rp0.Device])]) (shr' := []) [1] [0] [] rfl rfl rfl rfl ?_)
 refine Tk_seq (Tk_seq (Tk_region (Tops_step rfl (OpT_loadCA (vs := [vB rp0.Packed, vI rp0.Size, vU64 rp0.Desc, vU64 rp0.Driver, vU64 rp0.Device]) rfl rfl rfl rfl tyF27 (i := 0) rfl rfl rfl) ?_)))
 obtain ⟨issize1, hx1, h⟩ := ob_e h
 refine Tops_exP rfl (OpT_call (w_layout_isSize hx1) [] [] rfl rfl rfl rfl rfl callee27 rfl rfl rfl rfl) ?_
 rintro _ ⟨_, _, _, ⟨rfl, rfl, rfl⟩, rfl⟩
 refine Tops_step rfl (OpT_not rfl rfl rfl rfl) ?_
 refine Tops_nil (Tk_wkS (fr' := [(1, some (.pointer (some ⟨b1, 0, none⟩))), (11, some (vB (!issize1)))]) (own' := [some (cellsR b1 27 [vB rp0.Packed, vI rp0.Size, vU64 rp0.Desc, vU64 rp0.Driver, vU64 rp0.Device])]) (shr' := []) [1, 11] [0] [] rfl rfl rfl rfl ?_)
 rcases Bool.eq_false_or_eq_true ((!issize1)) with hg1 | hg1
 ·replace h := br_t hg1 h
  refine Tk_condT (congrArg (fun b => some (Value.bool b)) hg1) ?_
  refine Tk_seq (Tk_region (Tops_step rfl (OpT_assign rfl rfl rfl rfl) ?_))
  refine Tops_nil (Tk_wkS (fr' := [(2, some (vI (2 : Int)))]) (own' := []) (shr' := []) [2] [] [] rfl rfl rfl rfl ?_)
  obtain rfl := Option.some.inj h
  exact Tk_retV rfl rfl (resA (vs := [vI (2 : Int)]) rfl ⟨rfl, trivial⟩) [] [] rfl rfl rfl ⟨rfl, rfl, rfl⟩
 ·replace h := br_f hg1 h
  refine Tk_condF (congrArg (fun b => some (Value.bool b)) hg1) ?_
  refine Tk_skip (Tk_seq (Tk_drawT (by kernel_rfl) ?_))
  refine TA_tb [0, 1, 0, 7, 0, 0, 63, 127] (by kernel_rfl) fun htb => ?_
  refine TA_wkS (fr' := [(1, some (.pointer (some ⟨b1, 0, none⟩)))]) (own' := [some (cellsR b1 27 [vB rp0.Packed, vI rp0.Size, vU64 rp0.Desc, vU64 rp0.Driver, vU64 rp0.Device])]) (shr' := []) [1] [0] [] rfl rfl rfl rfl ?_
  obtain ⟨spans1, hx2, h⟩ := ob_e h
  obtain ⟨steps1, hx3, h⟩ := ob_e h
  refine TA_seg (lo := 0) (hi := 6) htb rfl rfl (by kernel_rfl) (fun c L a w => ∃ (b2 : Nat), ∃ (b3 : Nat), Sat c ⟨[(1, some (.pointer (some ⟨b1, 0, none⟩))), (12, bif L 0 then some (.agg #[vB rp0.Packed, vI rp0.Size, vU64 rp0.Desc, vU64 rp0.Driver, vU64 rp0.Device]) else none), (13, bif L 1 then some (.agg #[vU64 spans1.a0.a0, vU64 spans1.a0.a1, vU64 spans1.a1.a0, vU64 spans1.a1.a1, vU64 spans1.a2.a0, vU64 spans1.a2.a1]) else none), (14, bif L 2 then some (.agg #[vB rp0.Packed, vI rp0.Size, vU64 rp0.Desc, vU64 rp0.Driver, vU64 rp0.Device]) else none), (15, bif L 3 then some (.agg #[vU64 steps1.a0, vU64 steps1.a1, vU64 steps1.a2]) else none), (3, bif L 4 then some (.pointer (some ⟨b2, 0, none⟩)) else none), (4, bif L 5 then some (.pointer (some ⟨b3, 0, none⟩)) else none)], [(some (cellsR b1 27 [vB rp0.Packed, vI rp0.Size, vU64 rp0.Desc, vU64 rp0.Driver, vU64 rp0.Device]) : Option Res), (bif L 4 then some (cellsR b2 59 [vU64 (0 : UInt64), vU64 (0 : UInt64), vU64 (0 : UInt64), vU64 (0 : UInt64), vU64 (0 : UInt64), vU64 (0 : UInt64)]) else none : Option Res), (bif L 5 then some (cellsR b3 56 [vU64 (0 : UInt64), vU64 (0 : UInt64), vU64 (0 : UInt64)]) else none : Option Res)], []⟩ a w) [([], [1, 3]), ([0], [3]), ([], [3]), ([0, 1, 2], []), ([], []), ([], [])] rfl (by kernel_rfl) ?_ (steps_cons ?_ (steps_cons ?_ (steps_cons ?_ (steps_cons ?_ (steps_cons ?_ (steps_cons ?_ (steps_nil))))))) ?_
  ·intro a w hs
   exact ⟨0, 0, hs.startF [12, 13, 14, 15, 3, 4] [0, 1, 2] [] rfl rfl rfl rfl⟩
  ·intro L a w hv K Q hK
   obtain ⟨b2, b3, hs⟩ := hv
   refine wpOp_go rfl rfl hs (OpT_loadCA (vs := [vB rp0.Packed, vI rp0.Size, vU64 rp0.Desc, vU64 rp0.Driver, vU64 rp0.Device]) rfl rfl rfl rfl tyF27 (i := 0) rfl rfl rfl) ?_
   rintro _ rfl a' w' hs'
   exact hK a' w' ⟨b2, b3, hs'.putF (i := 1) rfl [0, 1, 2] [] rfl rfl rfl rfl⟩
  ·intro L a w hv K Q hK
   obtain ⟨b2, b3, hs⟩ := hv
   refine wpOp_go rfl rfl hs (OpT_call (w_layout_spans hx2) [] [] rfl rfl rfl rfl rfl callee29 rfl rfl rfl rfl) ?_
   rintro _ ⟨_, _, _, ⟨rfl, rfl, rfl⟩, rfl⟩ a' w' hs'
   exact hK a' w' ⟨b2, b3, hs'.putF (i := 2) rfl [0, 1, 2] [] rfl rfl rfl rfl⟩
  ·intro L a w hv K Q hK
   obtain ⟨b2, b3, hs⟩ := hv
   refine wpOp_go rfl rfl hs (OpT_loadCA (vs := [vB rp0.Packed, vI rp0.Size, vU64 rp0.Desc, vU64 rp0.Driver, vU64 rp0.Device]) rfl rfl rfl rfl tyF27 (i := 0) rfl rfl rfl) ?_
   rintro _ rfl a' w' hs'
   exact hK a' w' ⟨b2, b3, hs'.putF (i := 3) rfl [0, 1, 2] [] rfl rfl rfl rfl⟩
  ·intro L a w hv K Q hK
   obtain ⟨b2, b3, hs⟩ := hv
   refine wpOp_go rfl rfl hs (OpT_call (w_layout_steps hx3) [] [] rfl rfl rfl rfl rfl callee28 rfl rfl rfl rfl) ?_
   rintro _ ⟨_, _, _, ⟨rfl, rfl, rfl⟩, rfl⟩ a' w' hs'
   exact hK a' w' ⟨b2, b3, hs'.putF (i := 4) rfl [0, 1, 2] [] rfl rfl rfl rfl⟩
  ·intro L a w hv K Q hK
   obtain ⟨b2, b3, hs⟩ := hv
   refine wpOp_go rfl rfl hs (OpT_alloc rfl rfl rfl tyZ59) ?_
   rintro _ ⟨b2', rfl⟩ a' w' hs'
   exact hK a' w' ⟨b2', b3, hs'.putF (i := 5) rfl [0, 3, 2] [] rfl rfl rfl rfl⟩
  ·intro L a w hv K Q hK
   obtain ⟨b2, b3, hs⟩ := hv
   refine wpOp_go rfl rfl hs (OpT_alloc rfl rfl rfl tyZ56) ?_
   rintro _ ⟨b3', rfl⟩ a' w' hs'
   exact hK a' w' ⟨b2, b3', hs'.putF (i := 6) rfl [0, 1, 3] [] rfl rfl rfl rfl⟩
  ·intro L a w hL hv
   rw [allTrue hL] at hv
   obtain ⟨b2, b3, hs⟩ := hv
   refine (show TA _ _ _ 6 ⟨[(13, some (.agg #[vU64 spans1.a0.a0, vU64 spans1.a0.a1, vU64 spans1.a1.a0, vU64 spans1.a1.a1, vU64 spans1.a2.a0, vU64 spans1.a2.a1])), (15, some (.agg #[vU64 steps1.a0, vU64 steps1.a1, vU64 steps1.a2])), (3, some (.pointer (some ⟨b2, 0, none⟩))), (4, some (.pointer (some ⟨b3, 0, none⟩)))], [some (cellsR b2 59 [vU64 (0 : UInt64), vU64 (0 : UInt64), vU64 (0 : UInt64), vU64 (0 : UInt64), vU64 (0 : UInt64), vU64 (0 : UInt64)]), some (cellsR b3 56 [vU64 (0 : UInt64), vU64 (0 : UInt64), vU64 (0 : UInt64)])], []⟩ from ?_) a w (hs.wkS [13, 15, 3, 4] [1, 2] [] rfl rfl rfl rfl)
   clear hs hL
   refine TA_step htb (by kernel_rfl) rfl rfl (OpT_storeC (cs' := [vU64 spans1.a0.a0, vU64 spans1.a0.a1, vU64 spans1.a1.a0, vU64 spans1.a1.a1, vU64 spans1.a2.a0, vU64 spans1.a2.a1]) rfl rfl rfl rfl tyF59 (i := 0) rfl rfl rfl (one_of rfl) rfl) ?_
   refine TA_step htb (by kernel_rfl) rfl rfl (OpT_storeC (cs' := [vU64 steps1.a0, vU64 steps1.a1, vU64 steps1.a2]) rfl rfl rfl rfl tyF56 (i := 1) rfl rfl rfl (one_of rfl) rfl) ?_
   refine TA_end rfl ?_
   refine Tk_wkS (fr' := [(3, some (.pointer (some ⟨b2, 0, none⟩))), (4, some (.pointer (some ⟨b3, 0, none⟩)))]) (own' := [some (cellsR b2 59 [vU64 spans1.a0.a0, vU64 spans1.a0.a1, vU64 spans1.a1.a0, vU64 spans1.a1.a1, vU64 spans1.a2.a0, vU64 spans1.a2.a1]), some (cellsR b3 56 [vU64 steps1.a0, vU64 steps1.a1, vU64 steps1.a2])]) (shr' := []) [3, 4] [0, 1] [] rfl rfl rfl rfl ?_
   refine Tk_seq (Tk_seq (Tk_region (Tops_step rfl (OpT_loadCA (vs := [vU64 spans1.a0.a0, vU64 spans1.a0.a1, vU64 spans1.a1.a0, vU64 spans1.a1.a1, vU64 spans1.a2.a0, vU64 spans1.a2.a1]) rfl rfl rfl rfl tyF59 (i := 0) rfl rfl rfl) ?_)))
   refine Tops_step rfl (OpT_move rfl rfl rfl rfl) ?_
   refine Tops_nil (Tk_block (Tk_unroll 3 ?_))
   refine Tk_seq (Tk_region (Tops_step rfl (OpT_bin rfl rfl rfl rfl rfl (bin_lss_i (a := (0 : Int)) (b := (3 : Int)))) ?_))
   refine Tops_nil (Tk_seq (Tk_condT rfl ?_))
   refine Tk_skip (Tk_seq (Tk_block (Tk_seq (Tk_region (Tops_step rfl (OpT_move rfl rfl rfl rfl) ?_)))))
   refine Tops_step rfl (OpT_idxKA (cs := [vU64 spans1.a0.a0, vU64 spans1.a0.a1, vU64 spans1.a1.a0, vU64 spans1.a1.a1, vU64 spans1.a2.a0, vU64 spans1.a2.a1]) (vs := [vU64 spans1.a0.a0, vU64 spans1.a0.a1]) rfl rfl rfl rfl rfl arrF59 tyF58 (by decide) rfl) ?_
   refine Tops_ex rfl (OpT_alloc rfl rfl rfl tyZ58) fun b4 => ?_
   refine Tops_step rfl (OpT_assign rfl rfl rfl rfl) ?_
   refine Tops_step rfl (OpT_storeC (cs' := [vU64 spans1.a0.a0, vU64 spans1.a0.a1]) rfl rfl rfl rfl tyF58 (i := 2) rfl rfl rfl (one_of rfl) rfl) ?_
   refine Tops_nil (Tk_wkS (fr' := [(3, some (.pointer (some ⟨b2, 0, none⟩))), (4, some (.pointer (some ⟨b3, 0, none⟩))), (16, some (.agg #[vU64 spans1.a0.a0, vU64 spans1.a0.a1, vU64 spans1.a1.a0, vU64 spans1.a1.a1, vU64 spans1.a2.a0, vU64 spans1.a2.a1])), (17, some (vI (0 : Int))), (6, some (.pointer (some ⟨b4, 0, none⟩))), (5, some (vI (0 : Int)))]) (own' := [some (cellsR b2 59 [vU64 spans1.a0.a0, vU64 spans1.a0.a1, vU64 spans1.a1.a0, vU64 spans1.a1.a1, vU64 spans1.a2.a0, vU64 spans1.a2.a1]), some (cellsR b3 56 [vU64 steps1.a0, vU64 steps1.a1, vU64 steps1.a2]), some (cellsR b4 58 [vU64 spans1.a0.a0, vU64 spans1.a0.a1])]) (shr' := []) [3, 4, 16, 17, 6, 5] [0, 1, 2] [] rfl rfl rfl rfl ?_)
   refine Tk_seq (Tk_seq (Tk_drawT (by kernel_rfl) ?_))
   refine TA_tb [0, 1, 0, 4, 12, 31, 63, 127, 255, 511, 255, 1279, 4095, 8191] (by kernel_rfl) fun htb => ?_
   refine TA_seg (lo := 0) (hi := 5) htb rfl rfl (by kernel_rfl) (fun c L a w => Sat c ⟨[(3, some (.pointer (some ⟨b2, 0, none⟩))), (4, some (.pointer (some ⟨b3, 0, none⟩))), (16, some (.agg #[vU64 spans1.a0.a0, vU64 spans1.a0.a1, vU64 spans1.a1.a0, vU64 spans1.a1.a1, vU64 spans1.a2.a0, vU64 spans1.a2.a1])), (17, some (vI (0 : Int))), (6, some (.pointer (some ⟨b4, 0, none⟩))), (5, some (vI (0 : Int))), (21, bif L 0 then some (.pointer (some ⟨b4, 0, none⟩)) else none), (22, bif L 1 then some (vU64 spans1.a0.a0) else none), (23, bif L 2 then some (vI (0 : Int)) else none), (24, bif L 3 then some (.pointer (some ⟨b3, 0, none⟩)) else none), (25, bif L 4 then some (vU64 steps1.a0) else none)], [(some (cellsR b2 59 [vU64 spans1.a0.a0, vU64 spans1.a0.a1, vU64 spans1.a1.a0, vU64 spans1.a1.a1, vU64 spans1.a2.a0, vU64 spans1.a2.a1]) : Option Res), (some (cellsR b3 56 [vU64 steps1.a0, vU64 steps1.a1, vU64 steps1.a2]) : Option Res), (some (cellsR b4 58 [vU64 spans1.a0.a0, vU64 spans1.a0.a1]) : Option Res)], []⟩ a w) [([], [1]), ([0], []), ([], [3, 4]), ([2], [4]), ([2, 3], [])] rfl (by kernel_rfl) ?_ (steps_cons ?_ (steps_cons ?_ (steps_cons ?_ (steps_cons ?_ (steps_cons ?_ (steps_nil)))))) ?_
   ·intro a w hs
    exact hs.startF [21, 22, 23, 24, 25] [0, 1, 2] [] rfl rfl rfl rfl
   ·intro L a w hv K Q hK
    have hs := hv
    refine wpOp_go rfl rfl hs (OpT_indexC rfl rfl rfl rfl rfl arrF58 (by decide)) ?_
    rintro _ rfl a' w' hs'
    exact hK a' w' (hs'.putF (i := 6) rfl [0, 1, 2] [] rfl rfl rfl rfl)
   ·intro L a w hv K Q hK
    have hs := hv
    refine wpOp_go rfl rfl hs (OpT_loadC rfl rfl rfl rfl tyF22 (i := 2) rfl rfl) ?_
    rintro _ rfl a' w' hs'
    exact hK a' w' (hs'.putF (i := 7) rfl [0, 1, 2] [] rfl rfl rfl rfl)
   ·intro L a w hv K Q hK
    have hs := hv
    refine wpOp_go rfl rfl hs (OpT_move rfl rfl rfl rfl) ?_
    rintro _ rfl a' w' hs'
    exact hK a' w' (hs'.putF (i := 8) rfl [0, 1, 2] [] rfl rfl rfl rfl)
   ·intro L a w hv K Q hK
    have hs := hv
    refine wpOp_go rfl rfl hs (OpT_indexC rfl rfl rfl rfl rfl arrF56 (by decide)) ?_
    rintro _ rfl a' w' hs'
    exact hK a' w' (hs'.putF (i := 9) rfl [0, 1, 2] [] rfl rfl rfl rfl)
   ·intro L a w hv K Q hK
    have hs := hv
    refine wpOp_go rfl rfl hs (OpT_loadC rfl rfl rfl rfl tyF22 (i := 1) rfl rfl) ?_
    rintro _ rfl a' w' hs'
    exact hK a' w' (hs'.putF (i := 10) rfl [0, 1, 2] [] rfl rfl rfl rfl)
   ·intro L a w hL hv
    rw [allTrue hL] at hv
    have hs := hv
    refine (show TA _ _ _ 5 ⟨[(3, some (.pointer (some ⟨b2, 0, none⟩))), (4, some (.pointer (some ⟨b3, 0, none⟩))), (16, some (.agg #[vU64 spans1.a0.a0, vU64 spans1.a0.a1, vU64 spans1.a1.a0, vU64 spans1.a1.a1, vU64 spans1.a2.a0, vU64 spans1.a2.a1])), (17, some (vI (0 : Int))), (6, some (.pointer (some ⟨b4, 0, none⟩))), (5, some (vI (0 : Int))), (22, some (vU64 spans1.a0.a0)), (25, some (vU64 steps1.a0))], [some (cellsR b2 59 [vU64 spans1.a0.a0, vU64 spans1.a0.a1, vU64 spans1.a1.a0, vU64 spans1.a1.a1, vU64 spans1.a2.a0, vU64 spans1.a2.a1]), some (cellsR b3 56 [vU64 steps1.a0, vU64 steps1.a1, vU64 steps1.a2]), some (cellsR b4 58 [vU64 spans1.a0.a0, vU64 spans1.a0.a1])], []⟩ from ?_) a w (hs.wkS [3, 4, 16, 17, 6, 5, 22, 25] [0, 1, 2] [] rfl rfl rfl rfl)
    clear hs hL
    obtain ⟨hc1, h⟩ := chk_e h
    refine TA_step htb (by kernel_rfl) rfl rfl (OpT_bin rfl rfl rfl rfl rfl (bin_rem_u64 (a := spans1.a0.a0) (b := steps1.a0) (not_t hc1))) ?_
    refine TA_step htb (by kernel_rfl) rfl rfl (OpT_bin rfl rfl rfl rfl rfl (bin_neq_u64 (a := spans1.a0.a0 % steps1.a0) (b := (0 : UInt64)))) ?_
    refine TA_step htb (by kernel_rfl) rfl rfl (OpT_move rfl rfl rfl rfl) ?_
    refine TA_wkS (fr' := [(3, some (.pointer (some ⟨b2, 0, none⟩))), (4, some (.pointer (some ⟨b3, 0, none⟩))), (16, some (.agg #[vU64 spans1.a0.a0, vU64 spans1.a0.a1, vU64 spans1.a1.a0, vU64 spans1.a1.a1, vU64 spans1.a2.a0, vU64 spans1.a2.a1])), (17, some (vI (0 : Int))), (6, some (.pointer (some ⟨b4, 0, none⟩))), (5, some (vI (0 : Int))), (28, some (vB ((spans1.a0.a0 % steps1.a0) != (0 : UInt64))))]) (own' := [some (cellsR b2 59 [vU64 spans1.a0.a0, vU64 spans1.a0.a1, vU64 spans1.a1.a0, vU64 spans1.a1.a1, vU64 spans1.a2.a0, vU64 spans1.a2.a1]), some (cellsR b3 56 [vU64 steps1.a0, vU64 steps1.a1, vU64 steps1.a2]), some (cellsR b4 58 [vU64 spans1.a0.a0, vU64 spans1.a0.a1])]) (shr' := []) [3, 4, 16, 17, 6, 5, 28] [0, 1, 2] [] rfl rfl rfl rfl ?_
    rcases Bool.eq_false_or_eq_true ((spans1.a0.a0 % steps1.a0) != (0 : UInt64)) with hg2 | hg2
    ·replace h := br_t hg2 h
     refine TA_seg (lo := 8) (hi := 12) htb rfl rfl (by kernel_rfl) (fun c L a w => Sat c ⟨[(3, some (.pointer (some ⟨b2, 0, none⟩))), (4, some (.pointer (some ⟨b3, 0, none⟩))), (16, some (.agg #[vU64 spans1.a0.a0, vU64 spans1.a0.a1, vU64 spans1.a1.a0, vU64 spans1.a1.a1, vU64 spans1.a2.a0, vU64 spans1.a2.a1])), (17, some (vI (0 : Int))), (6, some (.pointer (some ⟨b4, 0, none⟩))), (5, some (vI (0 : Int))), (28, some (vB ((spans1.a0.a0 % steps1.a0) != (0 : UInt64)))), (29, bif L 8 then some (undef) else none), (30, bif L 9 then some (undef) else none), (31, bif L 10 then some (undef) else none), (32, bif L 11 then some (undef) else none)], [(some (cellsR b2 59 [vU64 spans1.a0.a0, vU64 spans1.a0.a1, vU64 spans1.a1.a0, vU64 spans1.a1.a1, vU64 spans1.a2.a0, vU64 spans1.a2.a1]) : Option Res), (some (cellsR b3 56 [vU64 steps1.a0, vU64 steps1.a1, vU64 steps1.a2]) : Option Res), (some (cellsR b4 58 [vU64 spans1.a0.a0, vU64 spans1.a0.a1]) : Option Res)], []⟩ a w) [([], [9]), ([8], []), ([], [11]), ([10], [])] rfl (by kernel_rfl) ?_ (steps_cons ?_ (steps_cons ?_ (steps_cons ?_ (steps_cons ?_ (steps_nil))))) ?_
     ·intro a w hs
      exact hs.startF [29, 30, 31, 32] [0, 1, 2] [] rfl rfl rfl rfl
     ·intro L a w hv K Q hK
      have hs := hv
      refine wpOp_no rfl rfl rfl hs (congrArg (fun b => some (Value.bool b)) hg2) rfl rfl ?_
      intro a' w' hs'
      exact hK a' w' (hs'.putF (i := 7) rfl [0, 1, 2] [] rfl rfl rfl rfl)
     ·intro L a w hv K Q hK
      have hs := hv
      refine wpOp_no rfl rfl rfl hs (congrArg (fun b => some (Value.bool b)) hg2) rfl rfl ?_
      intro a' w' hs'
      exact hK a' w' (hs'.putF (i := 8) rfl [0, 1, 2] [] rfl rfl rfl rfl)
     ·intro L a w hv K Q hK
      have hs := hv
      refine wpOp_no rfl rfl rfl hs (congrArg (fun b => some (Value.bool b)) hg2) rfl rfl ?_
      intro a' w' hs'
      exact hK a' w' (hs'.putF (i := 9) rfl [0, 1, 2] [] rfl rfl rfl rfl)
     ·intro L a w hv K Q hK
      have hs := hv
      refine wpOp_no rfl rfl rfl hs (congrArg (fun b => some (Value.bool b)) hg2) rfl rfl ?_
      intro a' w' hs'
      exact hK a' w' (hs'.putF (i := 10) rfl [0, 1, 2] [] rfl rfl rfl rfl)
     ·intro L a w hL hv
      rw [allTrue hL] at hv
      have hs := hv
      refine (show TA _ _ _ 12 ⟨[(3, some (.pointer (some ⟨b2, 0, none⟩))), (4, some (.pointer (some ⟨b3, 0, none⟩))), (16, some (.agg #[vU64 spans1.a0.a0, vU64 spans1.a0.a1, vU64 spans1.a1.a0, vU64 spans1.a1.a1, vU64 spans1.a2.a0, vU64 spans1.a2.a1])), (17, some (vI (0 : Int))), (6, some (.pointer (some ⟨b4, 0, none⟩))), (5, some (vI (0 : Int))), (28, some (vB ((spans1.a0.a0 % steps1.a0) != (0 : UInt64)))), (30, some (undef)), (32, some (undef))], [some (cellsR b2 59 [vU64 spans1.a0.a0, vU64 spans1.a0.a1, vU64 spans1.a1.a0, vU64 spans1.a1.a1, vU64 spans1.a2.a0, vU64 spans1.a2.a1]), some (cellsR b3 56 [vU64 steps1.a0, vU64 steps1.a1, vU64 steps1.a2]), some (cellsR b4 58 [vU64 spans1.a0.a0, vU64 spans1.a0.a1])], []⟩ from ?_) a w (hs.wkS [3, 4, 16, 17, 6, 5, 28, 30, 32] [0, 1, 2] [] rfl rfl rfl rfl)
      clear hs hL
      refine TA_no htb (by kernel_rfl) rfl rfl rfl (congrArg (fun b => some (Value.bool b)) hg2) rfl rfl ?_
      refine TA_step htb (by kernel_rfl) rfl rfl (OpT_pickT rfl rfl rfl (congrArg (fun b => some (Value.bool b)) hg2) rfl) ?_
      refine TA_end rfl ?_
      refine Tk_wkS (fr' := [(3, some (.pointer (some ⟨b2, 0, none⟩))), (4, some (.pointer (some ⟨b3, 0, none⟩))), (16, some (.agg #[vU64 spans1.a0.a0, vU64 spans1.a0.a1, vU64 spans1.a1.a0, vU64 spans1.a1.a1, vU64 spans1.a2.a0, vU64 spans1.a2.a1])), (17, some (vI (0 : Int))), (6, some (.pointer (some ⟨b4, 0, none⟩))), (5, some (vI (0 : Int))), (34, some (vB true))]) (own' := [some (cellsR b2 59 [vU64 spans1.a0.a0, vU64 spans1.a0.a1, vU64 spans1.a1.a0, vU64 spans1.a1.a1, vU64 spans1.a2.a0, vU64 spans1.a2.a1]), some (cellsR b3 56 [vU64 steps1.a0, vU64 steps1.a1, vU64 steps1.a2]), some (cellsR b4 58 [vU64 spans1.a0.a0, vU64 spans1.a0.a1])]) (shr' := []) [3, 4, 16, 17, 6, 5, 34] [0, 1, 2] [] rfl rfl rfl rfl ?_
      refine Tk_condT rfl ?_
      refine Tk_seq (Tk_region (Tops_step rfl (OpT_assign rfl rfl rfl rfl) ?_))
      refine Tops_nil (Tk_wkS (fr' := [(2, some (vI (2 : Int)))]) (own' := []) (shr' := []) [2] [] [] rfl rfl rfl rfl ?_)
      obtain rfl := Option.some.inj h
      exact Tk_retV rfl rfl (resA (vs := [vI (2 : Int)]) rfl ⟨rfl, trivial⟩) [] [] rfl rfl rfl ⟨rfl, rfl, rfl⟩
    ·replace h := br_f hg2 h
     refine TA_seg (lo := 8) (hi := 12) htb rfl rfl (by kernel_rfl) (fun c L a w => Sat c ⟨[(3, some (.pointer (some ⟨b2, 0, none⟩))), (4, some (.pointer (some ⟨b3, 0, none⟩))), (16, some (.agg #[vU64 spans1.a0.a0, vU64 spans1.a0.a1, vU64 spans1.a1.a0, vU64 spans1.a1.a1, vU64 spans1.a2.a0, vU64 spans1.a2.a1])), (17, some (vI (0 : Int))), (6, some (.pointer (some ⟨b4, 0, none⟩))), (5, some (vI (0 : Int))), (28, some (vB ((spans1.a0.a0 % steps1.a0) != (0 : UInt64)))), (29, bif L 8 then some (.pointer (some ⟨b4, 0, none⟩)) else none), (30, bif L 9 then some (vU64 spans1.a0.a0) else none), (31, bif L 10 then some (.pointer (some ⟨b4, 1, none⟩)) else none), (32, bif L 11 then some (vU64 spans1.a0.a1) else none)], [(some (cellsR b2 59 [vU64 spans1.a0.a0, vU64 spans1.a0.a1, vU64 spans1.a1.a0, vU64 spans1.a1.a1, vU64 spans1.a2.a0, vU64 spans1.a2.a1]) : Option Res), (some (cellsR b3 56 [vU64 steps1.a0, vU64 steps1.a1, vU64 steps1.a2]) : Option Res), (some (cellsR b4 58 [vU64 spans1.a0.a0, vU64 spans1.a0.a1]) : Option Res)], []⟩ a w) [([], [9]), ([8], []), ([], [11]), ([10], [])] rfl (by kernel_rfl) ?_ (steps_cons ?_ (steps_cons ?_ (steps_cons ?_ (steps_cons ?_ (steps_nil))))) ?_
     ·intro a w hs
      exact hs.startF [29, 30, 31, 32] [0, 1, 2] [] rfl rfl rfl rfl
     ·intro L a w hv K Q hK
      have hs := hv
      refine wpOp_yes rfl rfl rfl hs (congrArg (fun b => some (Value.bool b)) hg2) (OpT_indexC rfl rfl rfl rfl rfl arrF58 (by decide)) ?_
      rintro _ rfl a' w' hs'
      exact hK a' w' (hs'.putF (i := 7) rfl [0, 1, 2] [] rfl rfl rfl rfl)
     ·intro L a w hv K Q hK
      have hs := hv
      refine wpOp_yes rfl rfl rfl hs (congrArg (fun b => some (Value.bool b)) hg2) (OpT_loadC rfl rfl rfl rfl tyF22 (i := 2) rfl rfl) ?_
      rintro _ rfl a' w' hs'
      exact hK a' w' (hs'.putF (i := 8) rfl [0, 1, 2] [] rfl rfl rfl rfl)
     ·intro L a w hv K Q hK
      have hs := hv
      refine wpOp_yes rfl rfl rfl hs (congrArg (fun b => some (Value.bool b)) hg2) (OpT_indexC rfl rfl rfl rfl rfl arrF58 (by decide)) ?_
      rintro _ rfl a' w' hs'
      exact hK a' w' (hs'.putF (i := 9) rfl [0, 1, 2] [] rfl rfl rfl rfl)
     ·intro L a w hv K Q hK
      have hs := hv
      refine wpOp_yes rfl rfl rfl hs (congrArg (fun b => some (Value.bool b)) hg2) (OpT_loadC rfl rfl rfl rfl tyF22 (i := 2) rfl rfl) ?_
      rintro _ rfl a' w' hs'
      exact hK a' w' (hs'.putF (i := 10) rfl [0, 1, 2] [] rfl rfl rfl rfl)
     ·intro L a w hL hv
      rw [allTrue hL] at hv
      have hs := hv
      refine (show TA _ _ _ 12 ⟨[(3, some (.pointer (some ⟨b2, 0, none⟩))), (4, some (.pointer (some ⟨b3, 0, none⟩))), (16, some (.agg #[vU64 spans1.a0.a0, vU64 spans1.a0.a1, vU64 spans1.a1.a0, vU64 spans1.a1.a1, vU64 spans1.a2.a0, vU64 spans1.a2.a1])), (17, some (vI (0 : Int))), (6, some (.pointer (some ⟨b4, 0, none⟩))), (5, some (vI (0 : Int))), (28, some (vB ((spans1.a0.a0 % steps1.a0) != (0 : UInt64)))), (30, some (vU64 spans1.a0.a0)), (32, some (vU64 spans1.a0.a1))], [some (cellsR b2 59 [vU64 spans1.a0.a0, vU64 spans1.a0.a1, vU64 spans1.a1.a0, vU64 spans1.a1.a1, vU64 spans1.a2.a0, vU64 spans1.a2.a1]), some (cellsR b3 56 [vU64 steps1.a0, vU64 steps1.a1, vU64 steps1.a2]), some (cellsR b4 58 [vU64 spans1.a0.a0, vU64 spans1.a0.a1])], []⟩ from ?_) a w (hs.wkS [3, 4, 16, 17, 6, 5, 28, 30, 32] [0, 1, 2] [] rfl rfl rfl rfl)
      clear hs hL
      obtain ⟨beyond1, hx4, h⟩ := ob_e h
      refine TA_yes htb (by kernel_rfl) rfl rfl rfl (congrArg (fun b => some (Value.bool b)) hg2) (OpT_call (w_layout_beyond hx4) [] [] rfl rfl rfl rfl rfl callee31 rfl rfl rfl rfl) ?_
      rintro _ ⟨_, _, _, ⟨rfl, rfl, rfl⟩, rfl⟩
      refine TA_step htb (by kernel_rfl) rfl rfl (OpT_pickF rfl rfl rfl (congrArg (fun b => some (Value.bool b)) hg2) rfl) ?_
      refine TA_end rfl ?_
      refine Tk_wkS (fr' := [(3, some (.pointer (some ⟨b2, 0, none⟩))), (4, some (.pointer (some ⟨b3, 0, none⟩))), (16, some (.agg #[vU64 spans1.a0.a0, vU64 spans1.a0.a1, vU64 spans1.a1.a0, vU64 spans1.a1.a1, vU64 spans1.a2.a0, vU64 spans1.a2.a1])), (17, some (vI (0 : Int))), (6, some (.pointer (some ⟨b4, 0, none⟩))), (5, some (vI (0 : Int))), (34, some (vB beyond1))]) (own' := [some (cellsR b2 59 [vU64 spans1.a0.a0, vU64 spans1.a0.a1, vU64 spans1.a1.a0, vU64 spans1.a1.a1, vU64 spans1.a2.a0, vU64 spans1.a2.a1]), some (cellsR b3 56 [vU64 steps1.a0, vU64 steps1.a1, vU64 steps1.a2]), some (cellsR b4 58 [vU64 spans1.a0.a0, vU64 spans1.a0.a1])]) (shr' := []) [3, 4, 16, 17, 6, 5, 34] [0, 1, 2] [] rfl rfl rfl rfl ?_
      rcases Bool.eq_false_or_eq_true (beyond1) with hg3 | hg3
      ·replace h := br_t hg3 h
       refine Tk_condT (congrArg (fun b => some (Value.bool b)) hg3) ?_
       refine Tk_seq (Tk_region (Tops_step rfl (OpT_assign rfl rfl rfl rfl) ?_))
       refine Tops_nil (Tk_wkS (fr' := [(2, some (vI (2 : Int)))]) (own' := []) (shr' := []) [2] [] [] rfl rfl rfl rfl ?_)
       obtain rfl := Option.some.inj h
       exact Tk_retV rfl rfl (resA (vs := [vI (2 : Int)]) rfl ⟨rfl, trivial⟩) [] [] rfl rfl rfl ⟨rfl, rfl, rfl⟩
      ·replace h := br_f hg3 h
       refine Tk_condF (congrArg (fun b => some (Value.bool b)) hg3) ?_
       refine Tk_skip (Tk_seq (Tk_region (Tops_step rfl (OpT_move rfl rfl rfl rfl) ?_)))
       refine Tops_step rfl (OpT_sliceArrH (m := (0 : Int)) rfl rfl rfl rfl rfl arrF59 (by decide) rfl) ?_
       refine Tops_step rfl (OpT_lenE rfl rfl rfl rfl Try.underlying67) ?_
       refine Tops_step rfl (OpT_move rfl rfl rfl rfl) ?_
       refine Tops_nil (Tk_wkS (fr' := [(3, some (.pointer (some ⟨b2, 0, none⟩))), (4, some (.pointer (some ⟨b3, 0, none⟩))), (16, some (.agg #[vU64 spans1.a0.a0, vU64 spans1.a0.a1, vU64 spans1.a1.a0, vU64 spans1.a1.a1, vU64 spans1.a2.a0, vU64 spans1.a2.a1])), (17, some (vI (0 : Int))), (6, some (.pointer (some ⟨b4, 0, none⟩))), (36, some (.slice (some ⟨b2, 0, none⟩) 0 3)), (37, some (vI (0 : Int))), (38, some (vI (0 : Int)))]) (own' := [some (cellsR b2 59 [vU64 spans1.a0.a0, vU64 spans1.a0.a1, vU64 spans1.a1.a0, vU64 spans1.a1.a1, vU64 spans1.a2.a0, vU64 spans1.a2.a1]), some (cellsR b3 56 [vU64 steps1.a0, vU64 steps1.a1, vU64 steps1.a2]), some (cellsR b4 58 [vU64 spans1.a0.a0, vU64 spans1.a0.a1])]) (shr' := []) [3, 4, 16, 17, 6, 36, 37, 38] [0, 1, 2] [] rfl rfl rfl rfl ?_)
       refine Tk_block (Tk_unroll 0 ?_)
       refine Tk_seq (Tk_region (Tops_step rfl (OpT_bin rfl rfl rfl rfl rfl (bin_lss_i (a := (0 : Int)) (b := (0 : Int)))) ?_))
       refine Tops_nil (Tk_seq (Tk_condF rfl ?_))
       refine Tk_exit _ rfl ?_
       refine Tk_blk (Tk_region (Tops_step rfl (OpT_bin rfl rfl rfl rfl rfl (bin_add_i (a := (0 : Int)) (b := (1 : Int)))) ?_))
       refine Tops_step rfl (OpT_move rfl rfl rfl rfl) ?_
       refine Tops_nil (Tk_wkS (fr' := [(3, some (.pointer (some ⟨b2, 0, none⟩))), (4, some (.pointer (some ⟨b3, 0, none⟩))), (16, some (.agg #[vU64 spans1.a0.a0, vU64 spans1.a0.a1, vU64 spans1.a1.a0, vU64 spans1.a1.a1, vU64 spans1.a2.a0, vU64 spans1.a2.a1])), (17, some (vI (1 : Int)))]) (own' := [some (cellsR b2 59 [vU64 spans1.a0.a0, vU64 spans1.a0.a1, vU64 spans1.a1.a0, vU64 spans1.a1.a1, vU64 spans1.a2.a0, vU64 spans1.a2.a1]), some (cellsR b3 56 [vU64 steps1.a0, vU64 steps1.a1, vU64 steps1.a2])]) (shr' := []) [3, 4, 16, 17] [0, 1] [] rfl rfl rfl rfl ?_)
       refine Tk_round ?_
       refine Tk_seq (Tk_region (Tops_step rfl (OpT_bin rfl rfl rfl rfl rfl (bin_lss_i (a := (1 : Int)) (b := (3 : Int)))) ?_))
       refine Tops_nil (Tk_seq (Tk_condT rfl ?_))
       refine Tk_skip (Tk_seq (Tk_block (Tk_seq (Tk_region (Tops_step rfl (OpT_move rfl rfl rfl rfl) ?_)))))
       refine Tops_step rfl (OpT_idxKA (cs := [vU64 spans1.a0.a0, vU64 spans1.a0.a1, vU64 spans1.a1.a0, vU64 spans1.a1.a1, vU64 spans1.a2.a0, vU64 spans1.a2.a1]) (vs := [vU64 spans1.a1.a0, vU64 spans1.a1.a1]) rfl rfl rfl rfl rfl arrF59 tyF58 (by decide) rfl) ?_
       refine Tops_ex rfl (OpT_alloc rfl rfl rfl tyZ58) fun b5 => ?_
       refine Tops_step rfl (OpT_assign rfl rfl rfl rfl) ?_
       refine Tops_step rfl (OpT_storeC (cs' := [vU64 spans1.a1.a0, vU64 spans1.a1.a1]) rfl rfl rfl rfl tyF58 (i := 2) rfl rfl rfl (one_of rfl) rfl) ?_
       refine Tops_nil (Tk_wkS (fr' := [(3, some (.pointer (some ⟨b2, 0, none⟩))), (4, some (.pointer (some ⟨b3, 0, none⟩))), (16, some (.agg #[vU64 spans1.a0.a0, vU64 spans1.a0.a1, vU64 spans1.a1.a0, vU64 spans1.a1.a1, vU64 spans1.a2.a0, vU64 spans1.a2.a1])), (17, some (vI (1 : Int))), (6, some (.pointer (some ⟨b5, 0, none⟩))), (5, some (vI (1 : Int)))]) (own' := [some (cellsR b2 59 [vU64 spans1.a0.a0, vU64 spans1.a0.a1, vU64 spans1.a1.a0, vU64 spans1.a1.a1, vU64 spans1.a2.a0, vU64 spans1.a2.a1]), some (cellsR b3 56 [vU64 steps1.a0, vU64 steps1.a1, vU64 steps1.a2]), some (cellsR b5 58 [vU64 spans1.a1.a0, vU64 spans1.a1.a1])]) (shr' := []) [3, 4, 16, 17, 6, 5] [0, 1, 2] [] rfl rfl rfl rfl ?_)
       refine Tk_seq (Tk_seq (Tk_drawT (by kernel_rfl) ?_))
       refine TA_tb [0, 1, 0, 4, 12, 31, 63, 127, 255, 511, 255, 1279, 4095, 8191] (by kernel_rfl) fun htb => ?_
       refine TA_seg (lo := 0) (hi := 5) htb rfl rfl (by kernel_rfl) (fun c L a w => Sat c ⟨[(3, some (.pointer (some ⟨b2, 0, none⟩))), (4, some (.pointer (some ⟨b3, 0, none⟩))), (16, some (.agg #[vU64 spans1.a0.a0, vU64 spans1.a0.a1, vU64 spans1.a1.a0, vU64 spans1.a1.a1, vU64 spans1.a2.a0, vU64 spans1.a2.a1])), (17, some (vI (1 : Int))), (6, some (.pointer (some ⟨b5, 0, none⟩))), (5, some (vI (1 : Int))), (21, bif L 0 then some (.pointer (some ⟨b5, 0, none⟩)) else none), (22, bif L 1 then some (vU64 spans1.a1.a0) else none), (23, bif L 2 then some (vI (1 : Int)) else none), (24, bif L 3 then some (.pointer (some ⟨b3, 1, none⟩)) else none), (25, bif L 4 then some (vU64 steps1.a1) else none)], [(some (cellsR b2 59 [vU64 spans1.a0.a0, vU64 spans1.a0.a1, vU64 spans1.a1.a0, vU64 spans1.a1.a1, vU64 spans1.a2.a0, vU64 spans1.a2.a1]) : Option Res), (some (cellsR b3 56 [vU64 steps1.a0, vU64 steps1.a1, vU64 steps1.a2]) : Option Res), (some (cellsR b5 58 [vU64 spans1.a1.a0, vU64 spans1.a1.a1]) : Option Res)], []⟩ a w) [([], [1]), ([0], []), ([], [3, 4]), ([2], [4]), ([2, 3], [])] rfl (by kernel_rfl) ?_ (steps_cons ?_ (steps_cons ?_ (steps_cons ?_ (steps_cons ?_ (steps_cons ?_ (steps_nil)))))) ?_
       ·intro a w hs
        exact hs.startF [21, 22, 23, 24, 25] [0, 1, 2] [] rfl rfl rfl rfl
       ·intro L a w hv K Q hK
        have hs := hv
        refine wpOp_go rfl rfl hs (OpT_indexC rfl rfl rfl rfl rfl arrF58 (by decide)) ?_
        rintro _ rfl a' w' hs'
        exact hK a' w' (hs'.putF (i := 6) rfl [0, 1, 2] [] rfl rfl rfl rfl)
       ·intro L a w hv K Q hK
        have hs := hv
        refine wpOp_go rfl rfl hs (OpT_loadC rfl rfl rfl rfl tyF22 (i := 2) rfl rfl) ?_
        rintro _ rfl a' w' hs'
        exact hK a' w' (hs'.putF (i := 7) rfl [0, 1, 2] [] rfl rfl rfl rfl)
       ·intro L a w hv K Q hK
        have hs := hv
        refine wpOp_go rfl rfl hs (OpT_move rfl rfl rfl rfl) ?_
        rintro _ rfl a' w' hs'
        exact hK a' w' (hs'.putF (i := 8) rfl [0, 1, 2] [] rfl rfl rfl rfl)
       ·intro L a w hv K Q hK
        have hs := hv
        refine wpOp_go rfl rfl hs (OpT_indexC rfl rfl rfl rfl rfl arrF56 (by decide)) ?_
        rintro _ rfl a' w' hs'
        exact hK a' w' (hs'.putF (i := 9) rfl [0, 1, 2] [] rfl rfl rfl rfl)
       ·intro L a w hv K Q hK
        have hs := hv
        refine wpOp_go rfl rfl hs (OpT_loadC rfl rfl rfl rfl tyF22 (i := 1) rfl rfl) ?_
        rintro _ rfl a' w' hs'
        exact hK a' w' (hs'.putF (i := 10) rfl [0, 1, 2] [] rfl rfl rfl rfl)
       ·intro L a w hL hv
        rw [allTrue hL] at hv
        have hs := hv
        refine (show TA _ _ _ 5 ⟨[(3, some (.pointer (some ⟨b2, 0, none⟩))), (4, some (.pointer (some ⟨b3, 0, none⟩))), (16, some (.agg #[vU64 spans1.a0.a0, vU64 spans1.a0.a1, vU64 spans1.a1.a0, vU64 spans1.a1.a1, vU64 spans1.a2.a0, vU64 spans1.a2.a1])), (17, some (vI (1 : Int))), (6, some (.pointer (some ⟨b5, 0, none⟩))), (5, some (vI (1 : Int))), (22, some (vU64 spans1.a1.a0)), (25, some (vU64 steps1.a1))], [some (cellsR b2 59 [vU64 spans1.a0.a0, vU64 spans1.a0.a1, vU64 spans1.a1.a0, vU64 spans1.a1.a1, vU64 spans1.a2.a0, vU64 spans1.a2.a1]), some (cellsR b3 56 [vU64 steps1.a0, vU64 steps1.a1, vU64 steps1.a2]), some (cellsR b5 58 [vU64 spans1.a1.a0, vU64 spans1.a1.a1])], []⟩ from ?_) a w (hs.wkS [3, 4, 16, 17, 6, 5, 22, 25] [0, 1, 2] [] rfl rfl rfl rfl)
        clear hs hL
        obtain ⟨hc2, h⟩ := chk_e h
        refine TA_step htb (by kernel_rfl) rfl rfl (OpT_bin rfl rfl rfl rfl rfl (bin_rem_u64 (a := spans1.a1.a0) (b := steps1.a1) (not_t hc2))) ?_
        refine TA_step htb (by kernel_rfl) rfl rfl (OpT_bin rfl rfl rfl rfl rfl (bin_neq_u64 (a := spans1.a1.a0 % steps1.a1) (b := (0 : UInt64)))) ?_
        refine TA_step htb (by kernel_rfl) rfl rfl (OpT_move rfl rfl rfl rfl) ?_
        refine TA_wkS (fr' := [(3, some (.pointer (some ⟨b2, 0, none⟩))), (4, some (.pointer (some ⟨b3, 0, none⟩))), (16, some (.agg #[vU64 spans1.a0.a0, vU64 spans1.a0.a1, vU64 spans1.a1.a0, vU64 spans1.a1.a1, vU64 spans1.a2.a0, vU64 spans1.a2.a1])), (17, some (vI (1 : Int))), (6, some (.pointer (some ⟨b5, 0, none⟩))), (5, some (vI (1 : Int))), (28, some (vB ((spans1.a1.a0 % steps1.a1) != (0 : UInt64))))]) (own' := [some (cellsR b2 59 [vU64 spans1.a0.a0, vU64 spans1.a0.a1, vU64 spans1.a1.a0, vU64 spans1.a1.a1, vU64 spans1.a2.a0, vU64 spans1.a2.a1]), some (cellsR b3 56 [vU64 steps1.a0, vU64 steps1.a1, vU64 steps1.a2]), some (cellsR b5 58 [vU64 spans1.a1.a0, vU64 spans1.a1.a1])]) (shr' := []) [3, 4, 16, 17, 6, 5, 28] [0, 1, 2] [] rfl rfl rfl rfl ?_
        rcases Bool.eq_false_or_eq_true ((spans1.a1.a0 % steps1.a1) != (0 : UInt64)) with hg4 | hg4
        ·replace h := br_t hg4 h
         refine TA_seg (lo := 8) (hi := 12) htb rfl rfl (by kernel_rfl) (fun c L a w => Sat c ⟨[(3, some (.pointer (some ⟨b2, 0, none⟩))), (4, some (.pointer (some ⟨b3, 0, none⟩))), (16, some (.agg #[vU64 spans1.a0.a0, vU64 spans1.a0.a1, vU64 spans1.a1.a0, vU64 spans1.a1.a1, vU64 spans1.a2.a0, vU64 spans1.a2.a1])), (17, some (vI (1 : Int))), (6, some (.pointer (some ⟨b5, 0, none⟩))), (5, some (vI (1 : Int))), (28, some (vB ((spans1.a1.a0 % steps1.a1) != (0 : UInt64)))), (29, bif L 8 then some (undef) else none), (30, bif L 9 then some (undef) else none), (31, bif L 10 then some (undef) else none), (32, bif L 11 then some (undef) else none)], [(some (cellsR b2 59 [vU64 spans1.a0.a0, vU64 spans1.a0.a1, vU64 spans1.a1.a0, vU64 spans1.a1.a1, vU64 spans1.a2.a0, vU64 spans1.a2.a1]) : Option Res), (some (cellsR b3 56 [vU64 steps1.a0, vU64 steps1.a1, vU64 steps1.a2]) : Option Res), (some (cellsR b5 58 [vU64 spans1.a1.a0, vU64 spans1.a1.a1]) : Option Res)], []⟩ a w) [([], [9]), ([8], []), ([], [11]), ([10], [])] rfl (by kernel_rfl) ?_ (steps_cons ?_ (steps_cons ?_ (steps_cons ?_ (steps_cons ?_ (steps_nil))))) ?_
         ·intro a w hs
          exact hs.startF [29, 30, 31, 32] [0, 1, 2] [] rfl rfl rfl rfl
         ·intro L a w hv K Q hK
          have hs := hv
          refine wpOp_no rfl rfl rfl hs (congrArg (fun b => some (Value.bool b)) hg4) rfl rfl ?_
          intro a' w' hs'
          exact hK a' w' (hs'.putF (i := 7) rfl [0, 1, 2] [] rfl rfl rfl rfl)
         ·intro L a w hv K Q hK
          have hs := hv
          refine wpOp_no rfl rfl rfl hs (congrArg (fun b => some (Value.bool b)) hg4) rfl rfl ?_
          intro a' w' hs'
          exact hK a' w' (hs'.putF (i := 8) rfl [0, 1, 2] [] rfl rfl rfl rfl)
         ·intro L a w hv K Q hK
          have hs := hv
          refine wpOp_no rfl rfl rfl hs (congrArg (fun b => some (Value.bool b)) hg4) rfl rfl ?_
          intro a' w' hs'
          exact hK a' w' (hs'.putF (i := 9) rfl [0, 1, 2] [] rfl rfl rfl rfl)
         ·intro L a w hv K Q hK
          have hs := hv
          refine wpOp_no rfl rfl rfl hs (congrArg (fun b => some (Value.bool b)) hg4) rfl rfl ?_
          intro a' w' hs'
          exact hK a' w' (hs'.putF (i := 10) rfl [0, 1, 2] [] rfl rfl rfl rfl)
         ·intro L a w hL hv
          rw [allTrue hL] at hv
          have hs := hv
          refine (show TA _ _ _ 12 ⟨[(3, some (.pointer (some ⟨b2, 0, none⟩))), (4, some (.pointer (some ⟨b3, 0, none⟩))), (16, some (.agg #[vU64 spans1.a0.a0, vU64 spans1.a0.a1, vU64 spans1.a1.a0, vU64 spans1.a1.a1, vU64 spans1.a2.a0, vU64 spans1.a2.a1])), (17, some (vI (1 : Int))), (6, some (.pointer (some ⟨b5, 0, none⟩))), (5, some (vI (1 : Int))), (28, some (vB ((spans1.a1.a0 % steps1.a1) != (0 : UInt64)))), (30, some (undef)), (32, some (undef))], [some (cellsR b2 59 [vU64 spans1.a0.a0, vU64 spans1.a0.a1, vU64 spans1.a1.a0, vU64 spans1.a1.a1, vU64 spans1.a2.a0, vU64 spans1.a2.a1]), some (cellsR b3 56 [vU64 steps1.a0, vU64 steps1.a1, vU64 steps1.a2]), some (cellsR b5 58 [vU64 spans1.a1.a0, vU64 spans1.a1.a1])], []⟩ from ?_) a w (hs.wkS [3, 4, 16, 17, 6, 5, 28, 30, 32] [0, 1, 2] [] rfl rfl rfl rfl)
          clear hs hL
          refine TA_no htb (by kernel_rfl) rfl rfl rfl (congrArg (fun b => some (Value.bool b)) hg4) rfl rfl ?_
          refine TA_step htb (by kernel_rfl) rfl rfl (OpT_pickT rfl rfl rfl (congrArg (fun b => some (Value.bool b)) hg4) rfl) ?_
          refine TA_end rfl ?_
          refine Tk_wkS (fr' := [(3, some (.pointer (some ⟨b2, 0, none⟩))), (4, some (.pointer (some ⟨b3, 0, none⟩))), (16, some (.agg #[vU64 spans1.a0.a0, vU64 spans1.a0.a1, vU64 spans1.a1.a0, vU64 spans1.a1.a1, vU64 spans1.a2.a0, vU64 spans1.a2.a1])), (17, some (vI (1 : Int))), (6, some (.pointer (some ⟨b5, 0, none⟩))), (5, some (vI (1 : Int))), (34, some (vB true))]) (own' := [some (cellsR b2 59 [vU64 spans1.a0.a0, vU64 spans1.a0.a1, vU64 spans1.a1.a0, vU64 spans1.a1.a1, vU64 spans1.a2.a0, vU64 spans1.a2.a1]), some (cellsR b3 56 [vU64 steps1.a0, vU64 steps1.a1, vU64 steps1.a2]), some (cellsR b5 58 [vU64 spans1.a1.a0, vU64 spans1.a1.a1])]) (shr' := []) [3, 4, 16, 17, 6, 5, 34] [0, 1, 2] [] rfl rfl rfl rfl ?_
          refine Tk_condT rfl ?_
          refine Tk_seq (Tk_region (Tops_step rfl (OpT_assign rfl rfl rfl rfl) ?_))
          refine Tops_nil (Tk_wkS (fr' := [(2, some (vI (2 : Int)))]) (own' := []) (shr' := []) [2] [] [] rfl rfl rfl rfl ?_)
          obtain rfl := Option.some.inj h
          exact Tk_retV rfl rfl (resA (vs := [vI (2 : Int)]) rfl ⟨rfl, trivial⟩) [] [] rfl rfl rfl ⟨rfl, rfl, rfl⟩
        ·replace h := br_f hg4 h
         refine TA_seg (lo := 8) (hi := 12) htb rfl rfl (by kernel_rfl) (fun c L a w => Sat c ⟨[(3, some (.pointer (some ⟨b2, 0, none⟩))), (4, some (.pointer (some ⟨b3, 0, none⟩))), (16, some (.agg #[vU64 spans1.a0.a0, vU64 spans1.a0.a1, vU64 spans1.a1.a0, vU64 spans1.a1.a1, vU64 spans1.a2.a0, vU64 spans1.a2.a1])), (17, some (vI (1 : Int))), (6, some (.pointer (some ⟨b5, 0, none⟩))), (5, some (vI (1 : Int))), (28, some (vB ((spans1.a1.a0 % steps1.a1) != (0 : UInt64)))), (29, bif L 8 then some (.pointer (some ⟨b5, 0, none⟩)) else none), (30, bif L 9 then some (vU64 spans1.a1.a0) else none), (31, bif L 10 then some (.pointer (some ⟨b5, 1, none⟩)) else none), (32, bif L 11 then some (vU64 spans1.a1.a1) else none)], [(some (cellsR b2 59 [vU64 spans1.a0.a0, vU64 spans1.a0.a1, vU64 spans1.a1.a0, vU64 spans1.a1.a1, vU64 spans1.a2.a0, vU64 spans1.a2.a1]) : Option Res), (some (cellsR b3 56 [vU64 steps1.a0, vU64 steps1.a1, vU64 steps1.a2]) : Option Res), (some (cellsR b5 58 [vU64 spans1.a1.a0, vU64 spans1.a1.a1]) : Option Res)], []⟩ a w) [([], [9]), ([8], []), ([], [11]), ([10], [])] rfl (by kernel_rfl) ?_ (steps_cons ?_ (steps_cons ?_ (steps_cons ?_ (steps_cons ?_ (steps_nil))))) ?_
         ·intro a w hs
          exact hs.startF [29, 30, 31, 32] [0, 1, 2] [] rfl rfl rfl rfl
         ·intro L a w hv K Q hK
          have hs := hv
          refine wpOp_yes rfl rfl rfl hs (congrArg (fun b => some (Value.bool b)) hg4) (OpT_indexC rfl rfl rfl rfl rfl arrF58 (by decide)) ?_
          rintro _ rfl a' w' hs'
          exact hK a' w' (hs'.putF (i := 7) rfl [0, 1, 2] [] rfl rfl rfl rfl)
         ·intro L a w hv K Q hK
          have hs := hv
          refine wpOp_yes rfl rfl rfl hs (congrArg (fun b => some (Value.bool b)) hg4) (OpT_loadC rfl rfl rfl rfl tyF22 (i := 2) rfl rfl) ?_
          rintro _ rfl a' w' hs'
          exact hK a' w' (hs'.putF (i := 8) rfl [0, 1, 2] [] rfl rfl rfl rfl)
         ·intro L a w hv K Q hK
          have hs := hv
          refine wpOp_yes rfl rfl rfl hs (congrArg (fun b => some (Value.bool b)) hg4) (OpT_indexC rfl rfl rfl rfl rfl arrF58 (by decide)) ?_
          rintro _ rfl a' w' hs'
          exact hK a' w' (hs'.putF (i := 9) rfl [0, 1, 2] [] rfl rfl rfl rfl)
         ·intro L a w hv K Q hK
          have hs := hv
          refine wpOp_yes rfl rfl rfl hs (congrArg (fun b => some (Value.bool b)) hg4) (OpT_loadC rfl rfl rfl rfl tyF22 (i := 2) rfl rfl) ?_
          rintro _ rfl a' w' hs'
          exact hK a' w' (hs'.putF (i := 10) rfl [0, 1, 2] [] rfl rfl rfl rfl)
         ·intro L a w hL hv
          rw [allTrue hL] at hv
          have hs := hv
          refine (show TA _ _ _ 12 ⟨[(3, some (.pointer (some ⟨b2, 0, none⟩))), (4, some (.pointer (some ⟨b3, 0, none⟩))), (16, some (.agg #[vU64 spans1.a0.a0, vU64 spans1.a0.a1, vU64 spans1.a1.a0, vU64 spans1.a1.a1, vU64 spans1.a2.a0, vU64 spans1.a2.a1])), (17, some (vI (1 : Int))), (6, some (.pointer (some ⟨b5, 0, none⟩))), (5, some (vI (1 : Int))), (28, some (vB ((spans1.a1.a0 % steps1.a1) != (0 : UInt64)))), (30, some (vU64 spans1.a1.a0)), (32, some (vU64 spans1.a1.a1))], [some (cellsR b2 59 [vU64 spans1.a0.a0, vU64 spans1.a0.a1, vU64 spans1.a1.a0, vU64 spans1.a1.a1, vU64 spans1.a2.a0, vU64 spans1.a2.a1]), some (cellsR b3 56 [vU64 steps1.a0, vU64 steps1.a1, vU64 steps1.a2]), some (cellsR b5 58 [vU64 spans1.a1.a0, vU64 spans1.a1.a1])], []⟩ from ?_) a w (hs.wkS [3, 4, 16, 17, 6, 5, 28, 30, 32] [0, 1, 2] [] rfl rfl rfl rfl)
          clear hs hL
          obtain ⟨beyond2, hx5, h⟩ := ob_e h
          refine TA_yes htb (by kernel_rfl) rfl rfl rfl (congrArg (fun b => some (Value.bool b)) hg4) (OpT_call (w_layout_beyond hx5) [] [] rfl rfl rfl rfl rfl callee31 rfl rfl rfl rfl) ?_
          rintro _ ⟨_, _, _, ⟨rfl, rfl, rfl⟩, rfl⟩
          refine TA_step htb (by kernel_rfl) rfl rfl (OpT_pickF rfl rfl rfl (congrArg (fun b => some (Value.bool b)) hg4) rfl) ?_
          refine TA_end rfl ?_
          refine Tk_wkS (fr' := [(3, some (.pointer (some ⟨b2, 0, none⟩))), (4, some (.pointer (some ⟨b3, 0, none⟩))), (16, some (.agg #[vU64 spans1.a0.a0, vU64 spans1.a0.a1, vU64 spans1.a1.a0, vU64 spans1.a1.a1, vU64 spans1.a2.a0, vU64 spans1.a2.a1])), (17, some (vI (1 : Int))), (6, some (.pointer (some ⟨b5, 0, none⟩))), (5, some (vI (1 : Int))), (34, some (vB beyond2))]) (own' := [some (cellsR b2 59 [vU64 spans1.a0.a0, vU64 spans1.a0.a1, vU64 spans1.a1.a0, vU64 spans1.a1.a1, vU64 spans1.a2.a0, vU64 spans1.a2.a1]), some (cellsR b3 56 [vU64 steps1.a0, vU64 steps1.a1, vU64 steps1.a2]), some (cellsR b5 58 [vU64 spans1.a1.a0, vU64 spans1.a1.a1])]) (shr' := []) [3, 4, 16, 17, 6, 5, 34] [0, 1, 2] [] rfl rfl rfl rfl ?_
          rcases Bool.eq_false_or_eq_true (beyond2) with hg5 | hg5
          ·replace h := br_t hg5 h
           refine Tk_condT (congrArg (fun b => some (Value.bool b)) hg5) ?_
           refine Tk_seq (Tk_region (Tops_step rfl (OpT_assign rfl rfl rfl rfl) ?_))
           refine Tops_nil (Tk_wkS (fr' := [(2, some (vI (2 : Int)))]) (own' := []) (shr' := []) [2] [] [] rfl rfl rfl rfl ?_)
           obtain rfl := Option.some.inj h
           exact Tk_retV rfl rfl (resA (vs := [vI (2 : Int)]) rfl ⟨rfl, trivial⟩) [] [] rfl rfl rfl ⟨rfl, rfl, rfl⟩
          ·replace h := br_f hg5 h
           refine Tk_condF (congrArg (fun b => some (Value.bool b)) hg5) ?_
           refine Tk_skip (Tk_seq (Tk_region (Tops_step rfl (OpT_move rfl rfl rfl rfl) ?_)))
           refine Tops_step rfl (OpT_sliceArrH (m := (1 : Int)) rfl rfl rfl rfl rfl arrF59 (by decide) rfl) ?_
           refine Tops_step rfl (OpT_lenE rfl rfl rfl rfl Try.underlying67) ?_
           refine Tops_step rfl (OpT_move rfl rfl rfl rfl) ?_
           refine Tops_nil (Tk_wkS (fr' := [(3, some (.pointer (some ⟨b2, 0, none⟩))), (4, some (.pointer (some ⟨b3, 0, none⟩))), (16, some (.agg #[vU64 spans1.a0.a0, vU64 spans1.a0.a1, vU64 spans1.a1.a0, vU64 spans1.a1.a1, vU64 spans1.a2.a0, vU64 spans1.a2.a1])), (17, some (vI (1 : Int))), (6, some (.pointer (some ⟨b5, 0, none⟩))), (36, some (.slice (some ⟨b2, 0, none⟩) 1 3)), (37, some (vI (1 : Int))), (38, some (vI (0 : Int)))]) (own' := [some (cellsR b2 59 [vU64 spans1.a0.a0, vU64 spans1.a0.a1, vU64 spans1.a1.a0, vU64 spans1.a1.a1, vU64 spans1.a2.a0, vU64 spans1.a2.a1]), some (cellsR b3 56 [vU64 steps1.a0, vU64 steps1.a1, vU64 steps1.a2]), some (cellsR b5 58 [vU64 spans1.a1.a0, vU64 spans1.a1.a1])]) (shr' := []) [3, 4, 16, 17, 6, 36, 37, 38] [0, 1, 2] [] rfl rfl rfl rfl ?_)
           refine Tk_block (Tk_unroll 1 ?_)
           refine Tk_seq (Tk_region (Tops_step rfl (OpT_bin rfl rfl rfl rfl rfl (bin_lss_i (a := (0 : Int)) (b := (1 : Int)))) ?_))
           refine Tops_nil (Tk_seq (Tk_condT rfl ?_))
           refine Tk_skip (Tk_seq (Tk_block (Tk_seq (Tk_region (Tops_step rfl (OpT_idxSl (m := (0 : Int)) rfl rfl rfl rfl rfl slF67 (by decide)) ?_)))))
           refine Tops_step rfl (OpT_loadCA (vs := [vU64 spans1.a0.a0, vU64 spans1.a0.a1]) rfl rfl rfl rfl tyF58 (i := 0) rfl rfl rfl) ?_
           refine Tops_ex rfl (OpT_alloc rfl rfl rfl tyZ58) fun b6 => ?_
           refine Tops_step rfl (OpT_storeC (cs' := [vU64 spans1.a0.a0, vU64 spans1.a0.a1]) rfl rfl rfl rfl tyF58 (i := 3) rfl rfl rfl (one_of rfl) rfl) ?_
           refine Tops_nil (Tk_wkS (fr' := [(3, some (.pointer (some ⟨b2, 0, none⟩))), (4, some (.pointer (some ⟨b3, 0, none⟩))), (16, some (.agg #[vU64 spans1.a0.a0, vU64 spans1.a0.a1, vU64 spans1.a1.a0, vU64 spans1.a1.a1, vU64 spans1.a2.a0, vU64 spans1.a2.a1])), (17, some (vI (1 : Int))), (6, some (.pointer (some ⟨b5, 0, none⟩))), (36, some (.slice (some ⟨b2, 0, none⟩) 1 3)), (37, some (vI (1 : Int))), (38, some (vI (0 : Int))), (8, some (.pointer (some ⟨b6, 0, none⟩)))]) (own' := [some (cellsR b2 59 [vU64 spans1.a0.a0, vU64 spans1.a0.a1, vU64 spans1.a1.a0, vU64 spans1.a1.a1, vU64 spans1.a2.a0, vU64 spans1.a2.a1]), some (cellsR b3 56 [vU64 steps1.a0, vU64 steps1.a1, vU64 steps1.a2]), some (cellsR b5 58 [vU64 spans1.a1.a0, vU64 spans1.a1.a1]), some (cellsR b6 58 [vU64 spans1.a0.a0, vU64 spans1.a0.a1])]) (shr' := []) [3, 4, 16, 17, 6, 36, 37, 38, 8] [0, 1, 2, 3] [] rfl rfl rfl rfl ?_)
           refine Tk_seq (Tk_region (Tops_step rfl (OpT_indexC rfl rfl rfl rfl rfl arrF58 (by decide)) ?_))
           refine Tops_step rfl (OpT_loadC rfl rfl rfl rfl tyF22 (i := 2) rfl rfl) ?_
           refine Tops_step rfl (OpT_indexC rfl rfl rfl rfl rfl arrF58 (by decide)) ?_
           refine Tops_step rfl (OpT_loadC rfl rfl rfl rfl tyF22 (i := 2) rfl rfl) ?_
           refine Tops_step rfl (OpT_indexC rfl rfl rfl rfl rfl arrF58 (by decide)) ?_
           refine Tops_step rfl (OpT_loadC rfl rfl rfl rfl tyF22 (i := 3) rfl rfl) ?_
           refine Tops_step rfl (OpT_indexC rfl rfl rfl rfl rfl arrF58 (by decide)) ?_
           refine Tops_step rfl (OpT_loadC rfl rfl rfl rfl tyF22 (i := 3) rfl rfl) ?_
           obtain ⟨common1, hx6, h⟩ := ob_e h
           refine Tops_exP rfl (OpT_call (w_layout_common hx6) [] [] rfl rfl rfl rfl rfl callee32 rfl rfl rfl rfl) ?_
           rintro _ ⟨_, _, _, ⟨rfl, rfl, rfl⟩, rfl⟩
           refine Tops_nil (Tk_wkS (fr' := [(3, some (.pointer (some ⟨b2, 0, none⟩))), (4, some (.pointer (some ⟨b3, 0, none⟩))), (16, some (.agg #[vU64 spans1.a0.a0, vU64 spans1.a0.a1, vU64 spans1.a1.a0, vU64 spans1.a1.a1, vU64 spans1.a2.a0, vU64 spans1.a2.a1])), (17, some (vI (1 : Int))), (6, some (.pointer (some ⟨b5, 0, none⟩))), (36, some (.slice (some ⟨b2, 0, none⟩) 1 3)), (37, some (vI (1 : Int))), (38, some (vI (0 : Int))), (50, some (vB common1))]) (own' := [some (cellsR b2 59 [vU64 spans1.a0.a0, vU64 spans1.a0.a1, vU64 spans1.a1.a0, vU64 spans1.a1.a1, vU64 spans1.a2.a0, vU64 spans1.a2.a1]), some (cellsR b3 56 [vU64 steps1.a0, vU64 steps1.a1, vU64 steps1.a2]), some (cellsR b5 58 [vU64 spans1.a1.a0, vU64 spans1.a1.a1])]) (shr' := []) [3, 4, 16, 17, 6, 36, 37, 38, 50] [0, 1, 2] [] rfl rfl rfl rfl ?_)
           rcases Bool.eq_false_or_eq_true (common1) with hg6 | hg6
           ·replace h := br_t hg6 h
            refine Tk_condT (congrArg (fun b => some (Value.bool b)) hg6) ?_
            refine Tk_seq (Tk_region (Tops_step rfl (OpT_assign rfl rfl rfl rfl) ?_))
            refine Tops_nil (Tk_wkS (fr' := [(2, some (vI (2 : Int)))]) (own' := []) (shr' := []) [2] [] [] rfl rfl rfl rfl ?_)
            obtain rfl := Option.some.inj h
            exact Tk_retV rfl rfl (resA (vs := [vI (2 : Int)]) rfl ⟨rfl, trivial⟩) [] [] rfl rfl rfl ⟨rfl, rfl, rfl⟩
           ·replace h := br_f hg6 h
            refine Tk_condF (congrArg (fun b => some (Value.bool b)) hg6) ?_
            refine Tk_skip (Tk_blk (Tk_region (Tops_step rfl (OpT_bin rfl rfl rfl rfl rfl (bin_add_i (a := (0 : Int)) (b := (1 : Int)))) ?_)))
            refine Tops_step rfl (OpT_move rfl rfl rfl rfl) ?_
            refine Tops_nil (Tk_wkS (fr' := [(3, some (.pointer (some ⟨b2, 0, none⟩))), (4, some (.pointer (some ⟨b3, 0, none⟩))), (16, some (.agg #[vU64 spans1.a0.a0, vU64 spans1.a0.a1, vU64 spans1.a1.a0, vU64 spans1.a1.a1, vU64 spans1.a2.a0, vU64 spans1.a2.a1])), (17, some (vI (1 : Int))), (6, some (.pointer (some ⟨b5, 0, none⟩))), (36, some (.slice (some ⟨b2, 0, none⟩) 1 3)), (37, some (vI (1 : Int))), (38, some (vI (1 : Int)))]) (own' := [some (cellsR b2 59 [vU64 spans1.a0.a0, vU64 spans1.a0.a1, vU64 spans1.a1.a0, vU64 spans1.a1.a1, vU64 spans1.a2.a0, vU64 spans1.a2.a1]), some (cellsR b3 56 [vU64 steps1.a0, vU64 steps1.a1, vU64 steps1.a2]), some (cellsR b5 58 [vU64 spans1.a1.a0, vU64 spans1.a1.a1])]) (shr' := []) [3, 4, 16, 17, 6, 36, 37, 38] [0, 1, 2] [] rfl rfl rfl rfl ?_)
            refine Tk_round ?_
            refine Tk_seq (Tk_region (Tops_step rfl (OpT_bin rfl rfl rfl rfl rfl (bin_lss_i (a := (1 : Int)) (b := (1 : Int)))) ?_))
            refine Tops_nil (Tk_seq (Tk_condF rfl ?_))
            refine Tk_exit _ rfl ?_
            refine Tk_blk (Tk_region (Tops_step rfl (OpT_bin rfl rfl rfl rfl rfl (bin_add_i (a := (1 : Int)) (b := (1 : Int)))) ?_))
            refine Tops_step rfl (OpT_move rfl rfl rfl rfl) ?_
            refine Tops_nil (Tk_wkS (fr' := [(3, some (.pointer (some ⟨b2, 0, none⟩))), (4, some (.pointer (some ⟨b3, 0, none⟩))), (16, some (.agg #[vU64 spans1.a0.a0, vU64 spans1.a0.a1, vU64 spans1.a1.a0, vU64 spans1.a1.a1, vU64 spans1.a2.a0, vU64 spans1.a2.a1])), (17, some (vI (2 : Int)))]) (own' := [some (cellsR b2 59 [vU64 spans1.a0.a0, vU64 spans1.a0.a1, vU64 spans1.a1.a0, vU64 spans1.a1.a1, vU64 spans1.a2.a0, vU64 spans1.a2.a1]), some (cellsR b3 56 [vU64 steps1.a0, vU64 steps1.a1, vU64 steps1.a2])]) (shr' := []) [3, 4, 16, 17] [0, 1] [] rfl rfl rfl rfl ?_)
            refine Tk_round ?_
            refine Tk_seq (Tk_region (Tops_step rfl (OpT_bin rfl rfl rfl rfl rfl (bin_lss_i (a := (2 : Int)) (b := (3 : Int)))) ?_))
            refine Tops_nil (Tk_seq (Tk_condT rfl ?_))
            refine Tk_skip (Tk_seq (Tk_block (Tk_seq (Tk_region (Tops_step rfl (OpT_move rfl rfl rfl rfl) ?_)))))
            refine Tops_step rfl (OpT_idxKA (cs := [vU64 spans1.a0.a0, vU64 spans1.a0.a1, vU64 spans1.a1.a0, vU64 spans1.a1.a1, vU64 spans1.a2.a0, vU64 spans1.a2.a1]) (vs := [vU64 spans1.a2.a0, vU64 spans1.a2.a1]) rfl rfl rfl rfl rfl arrF59 tyF58 (by decide) rfl) ?_
            refine Tops_ex rfl (OpT_alloc rfl rfl rfl tyZ58) fun b7 => ?_
            refine Tops_step rfl (OpT_assign rfl rfl rfl rfl) ?_
            refine Tops_step rfl (OpT_storeC (cs' := [vU64 spans1.a2.a0, vU64 spans1.a2.a1]) rfl rfl rfl rfl tyF58 (i := 2) rfl rfl rfl (one_of rfl) rfl) ?_
            refine Tops_nil (Tk_wkS (fr' := [(3, some (.pointer (some ⟨b2, 0, none⟩))), (4, some (.pointer (some ⟨b3, 0, none⟩))), (16, some (.agg #[vU64 spans1.a0.a0, vU64 spans1.a0.a1, vU64 spans1.a1.a0, vU64 spans1.a1.a1, vU64 spans1.a2.a0, vU64 spans1.a2.a1])), (17, some (vI (2 : Int))), (6, some (.pointer (some ⟨b7, 0, none⟩))), (5, some (vI (2 : Int)))]) (own' := [some (cellsR b2 59 [vU64 spans1.a0.a0, vU64 spans1.a0.a1, vU64 spans1.a1.a0, vU64 spans1.a1.a1, vU64 spans1.a2.a0, vU64 spans1.a2.a1]), some (cellsR b3 56 [vU64 steps1.a0, vU64 steps1.a1, vU64 steps1.a2]), some (cellsR b7 58 [vU64 spans1.a2.a0, vU64 spans1.a2.a1])]) (shr' := []) [3, 4, 16, 17, 6, 5] [0, 1, 2] [] rfl rfl rfl rfl ?_)
            refine Tk_seq (Tk_seq (Tk_drawT (by kernel_rfl) ?_))
            refine TA_tb [0, 1, 0, 4, 12, 31, 63, 127, 255, 511, 255, 1279, 4095, 8191] (by kernel_rfl) fun htb => ?_
            refine TA_seg (lo := 0) (hi := 5) htb rfl rfl (by kernel_rfl) (fun c L a w => Sat c ⟨[(3, some (.pointer (some ⟨b2, 0, none⟩))), (4, some (.pointer (some ⟨b3, 0, none⟩))), (16, some (.agg #[vU64 spans1.a0.a0, vU64 spans1.a0.a1, vU64 spans1.a1.a0, vU64 spans1.a1.a1, vU64 spans1.a2.a0, vU64 spans1.a2.a1])), (17, some (vI (2 : Int))), (6, some (.pointer (some ⟨b7, 0, none⟩))), (5, some (vI (2 : Int))), (21, bif L 0 then some (.pointer (some ⟨b7, 0, none⟩)) else none), (22, bif L 1 then some (vU64 spans1.a2.a0) else none), (23, bif L 2 then some (vI (2 : Int)) else none), (24, bif L 3 then some (.pointer (some ⟨b3, 2, none⟩)) else none), (25, bif L 4 then some (vU64 steps1.a2) else none)], [(some (cellsR b2 59 [vU64 spans1.a0.a0, vU64 spans1.a0.a1, vU64 spans1.a1.a0, vU64 spans1.a1.a1, vU64 spans1.a2.a0, vU64 spans1.a2.a1]) : Option Res), (some (cellsR b3 56 [vU64 steps1.a0, vU64 steps1.a1, vU64 steps1.a2]) : Option Res), (some (cellsR b7 58 [vU64 spans1.a2.a0, vU64 spans1.a2.a1]) : Option Res)], []⟩ a w) [([], [1]), ([0], []), ([], [3, 4]), ([2], [4]), ([2, 3], [])] rfl (by kernel_rfl) ?_ (steps_cons ?_ (steps_cons ?_ (steps_cons ?_ (steps_cons ?_ (steps_cons ?_ (steps_nil)))))) ?_
            ·intro a w hs
             exact hs.startF [21, 22, 23, 24, 25] [0, 1, 2] [] rfl rfl rfl rfl
            ·intro L a w hv K Q hK
             have hs := hv
             refine wpOp_go rfl rfl hs (OpT_indexC rfl rfl rfl rfl rfl arrF58 (by decide)) ?_
             rintro _ rfl a' w' hs'
             exact hK a' w' (hs'.putF (i := 6) rfl [0, 1, 2] [] rfl rfl rfl rfl)
            ·intro L a w hv K Q hK
             have hs := hv
             refine wpOp_go rfl rfl hs (OpT_loadC rfl rfl rfl rfl tyF22 (i := 2) rfl rfl) ?_
             rintro _ rfl a' w' hs'
             exact hK a' w' (hs'.putF (i := 7) rfl [0, 1, 2] [] rfl rfl rfl rfl)
            ·intro L a w hv K Q hK
             have hs := hv
             refine wpOp_go rfl rfl hs (OpT_move rfl rfl rfl rfl) ?_
             rintro _ rfl a' w' hs'
             exact hK a' w' (hs'.putF (i := 8) rfl [0, 1, 2] [] rfl rfl rfl rfl)
            ·intro L a w hv K Q hK
             have hs := hv
             refine wpOp_go rfl rfl hs (OpT_indexC rfl rfl rfl rfl rfl arrF56 (by decide)) ?_
             rintro _ rfl a' w' hs'
             exact hK a' w' (hs'.putF (i := 9) rfl [0, 1, 2] [] rfl rfl rfl rfl)
            ·intro L a w hv K Q hK
             have hs := hv
             refine wpOp_go rfl rfl hs (OpT_loadC rfl rfl rfl rfl tyF22 (i := 1) rfl rfl) ?_
             rintro _ rfl a' w' hs'
             exact hK a' w' (hs'.putF (i := 10) rfl [0, 1, 2] [] rfl rfl rfl rfl)
            ·intro L a w hL hv
             rw [allTrue hL] at hv
             have hs := hv
             refine (show TA _ _ _ 5 ⟨[(3, some (.pointer (some ⟨b2, 0, none⟩))), (4, some (.pointer (some ⟨b3, 0, none⟩))), (16, some (.agg #[vU64 spans1.a0.a0, vU64 spans1.a0.a1, vU64 spans1.a1.a0, vU64 spans1.a1.a1, vU64 spans1.a2.a0, vU64 spans1.a2.a1])), (17, some (vI (2 : Int))), (6, some (.pointer (some ⟨b7, 0, none⟩))), (5, some (vI (2 : Int))), (22, some (vU64 spans1.a2.a0)), (25, some (vU64 steps1.a2))], [some (cellsR b2 59 [vU64 spans1.a0.a0, vU64 spans1.a0.a1, vU64 spans1.a1.a0, vU64 spans1.a1.a1, vU64 spans1.a2.a0, vU64 spans1.a2.a1]), some (cellsR b3 56 [vU64 steps1.a0, vU64 steps1.a1, vU64 steps1.a2]), some (cellsR b7 58 [vU64 spans1.a2.a0, vU64 spans1.a2.a1])], []⟩ from ?_) a w (hs.wkS [3, 4, 16, 17, 6, 5, 22, 25] [0, 1, 2] [] rfl rfl rfl rfl)
             clear hs hL
             obtain ⟨hc3, h⟩ := chk_e h
             refine TA_step htb (by kernel_rfl) rfl rfl (OpT_bin rfl rfl rfl rfl rfl (bin_rem_u64 (a := spans1.a2.a0) (b := steps1.a2) (not_t hc3))) ?_
             refine TA_step htb (by kernel_rfl) rfl rfl (OpT_bin rfl rfl rfl rfl rfl (bin_neq_u64 (a := spans1.a2.a0 % steps1.a2) (b := (0 : UInt64)))) ?_
             refine TA_step htb (by kernel_rfl) rfl rfl (OpT_move rfl rfl rfl rfl) ?_
             refine TA_wkS (fr' := [(3, some (.pointer (some ⟨b2, 0, none⟩))), (4, some (.pointer (some ⟨b3, 0, none⟩))), (16, some (.agg #[vU64 spans1.a0.a0, vU64 spans1.a0.a1, vU64 spans1.a1.a0, vU64 spans1.a1.a1, vU64 spans1.a2.a0, vU64 spans1.a2.a1])), (17, some (vI (2 : Int))), (6, some (.pointer (some ⟨b7, 0, none⟩))), (5, some (vI (2 : Int))), (28, some (vB ((spans1.a2.a0 % steps1.a2) != (0 : UInt64))))]) (own' := [some (cellsR b2 59 [vU64 spans1.a0.a0, vU64 spans1.a0.a1, vU64 spans1.a1.a0, vU64 spans1.a1.a1, vU64 spans1.a2.a0, vU64 spans1.a2.a1]), some (cellsR b3 56 [vU64 steps1.a0, vU64 steps1.a1, vU64 steps1.a2]), some (cellsR b7 58 [vU64 spans1.a2.a0, vU64 spans1.a2.a1])]) (shr' := []) [3, 4, 16, 17, 6, 5, 28] [0, 1, 2] [] rfl rfl rfl rfl ?_
             rcases Bool.eq_false_or_eq_true ((spans1.a2.a0 % steps1.a2) != (0 : UInt64)) with hg7 | hg7
             ·replace h := br_t hg7 h
              refine TA_seg (lo := 8) (hi := 12) htb rfl rfl (by kernel_rfl) (fun c L a w => Sat c ⟨[(3, some (.pointer (some ⟨b2, 0, none⟩))), (4, some (.pointer (some ⟨b3, 0, none⟩))), (16, some (.agg #[vU64 spans1.a0.a0, vU64 spans1.a0.a1, vU64 spans1.a1.a0, vU64 spans1.a1.a1, vU64 spans1.a2.a0, vU64 spans1.a2.a1])), (17, some (vI (2 : Int))), (6, some (.pointer (some ⟨b7, 0, none⟩))), (5, some (vI (2 : Int))), (28, some (vB ((spans1.a2.a0 % steps1.a2) != (0 : UInt64)))), (29, bif L 8 then some (undef) else none), (30, bif L 9 then some (undef) else none), (31, bif L 10 then some (undef) else none), (32, bif L 11 then some (undef) else none)], [(some (cellsR b2 59 [vU64 spans1.a0.a0, vU64 spans1.a0.a1, vU64 spans1.a1.a0, vU64 spans1.a1.a1, vU64 spans1.a2.a0, vU64 spans1.a2.a1]) : Option Res), (some (cellsR b3 56 [vU64 steps1.a0, vU64 steps1.a1, vU64 steps1.a2]) : Option Res), (some (cellsR b7 58 [vU64 spans1.a2.a0, vU64 spans1.a2.a1]) : Option Res)], []⟩ a w) [([], [9]), ([8], []), ([], [11]), ([10], [])] rfl (by kernel_rfl) ?_ (steps_cons ?_ (steps_cons ?_ (steps_cons ?_ (steps_cons ?_ (steps_nil))))) ?_
              ·intro a w hs
               exact hs.startF [29, 30, 31, 32] [0, 1, 2] [] rfl rfl rfl rfl
              ·intro L a w hv K Q hK
               have hs := hv
               refine wpOp_no rfl rfl rfl hs (congrArg (fun b => some (Value.bool b)) hg7) rfl rfl ?_
               intro a' w' hs'
               exact hK a' w' (hs'.putF (i := 7) rfl [0, 1, 2] [] rfl rfl rfl rfl)
              ·intro L a w hv K Q hK
               have hs := hv
               refine wpOp_no rfl rfl rfl hs (congrArg (fun b => some (Value.bool b)) hg7) rfl rfl ?_
               intro a' w' hs'
               exact hK a' w' (hs'.putF (i := 8) rfl [0, 1, 2] [] rfl rfl rfl rfl)
              ·intro L a w hv K Q hK
               have hs := hv
               refine wpOp_no rfl rfl rfl hs (congrArg (fun b => some (Value.bool b)) hg7) rfl rfl ?_
               intro a' w' hs'
               exact hK a' w' (hs'.putF (i := 9) rfl [0, 1, 2] [] rfl rfl rfl rfl)
              ·intro L a w hv K Q hK
               have hs := hv
               refine wpOp_no rfl rfl rfl hs (congrArg (fun b => some (Value.bool b)) hg7) rfl rfl ?_
               intro a' w' hs'
               exact hK a' w' (hs'.putF (i := 10) rfl [0, 1, 2] [] rfl rfl rfl rfl)
              ·intro L a w hL hv
               rw [allTrue hL] at hv
               have hs := hv
               refine (show TA _ _ _ 12 ⟨[(3, some (.pointer (some ⟨b2, 0, none⟩))), (4, some (.pointer (some ⟨b3, 0, none⟩))), (16, some (.agg #[vU64 spans1.a0.a0, vU64 spans1.a0.a1, vU64 spans1.a1.a0, vU64 spans1.a1.a1, vU64 spans1.a2.a0, vU64 spans1.a2.a1])), (17, some (vI (2 : Int))), (6, some (.pointer (some ⟨b7, 0, none⟩))), (5, some (vI (2 : Int))), (28, some (vB ((spans1.a2.a0 % steps1.a2) != (0 : UInt64)))), (30, some (undef)), (32, some (undef))], [some (cellsR b2 59 [vU64 spans1.a0.a0, vU64 spans1.a0.a1, vU64 spans1.a1.a0, vU64 spans1.a1.a1, vU64 spans1.a2.a0, vU64 spans1.a2.a1]), some (cellsR b3 56 [vU64 steps1.a0, vU64 steps1.a1, vU64 steps1.a2]), some (cellsR b7 58 [vU64 spans1.a2.a0, vU64 spans1.a2.a1])], []⟩ from ?_) a w (hs.wkS [3, 4, 16, 17, 6, 5, 28, 30, 32] [0, 1, 2] [] rfl rfl rfl rfl)
               clear hs hL
               refine TA_no htb (by kernel_rfl) rfl rfl rfl (congrArg (fun b => some (Value.bool b)) hg7) rfl rfl ?_
               refine TA_step htb (by kernel_rfl) rfl rfl (OpT_pickT rfl rfl rfl (congrArg (fun b => some (Value.bool b)) hg7) rfl) ?_
               refine TA_end rfl ?_
               refine Tk_wkS (fr' := [(3, some (.pointer (some ⟨b2, 0, none⟩))), (4, some (.pointer (some ⟨b3, 0, none⟩))), (16, some (.agg #[vU64 spans1.a0.a0, vU64 spans1.a0.a1, vU64 spans1.a1.a0, vU64 spans1.a1.a1, vU64 spans1.a2.a0, vU64 spans1.a2.a1])), (17, some (vI (2 : Int))), (6, some (.pointer (some ⟨b7, 0, none⟩))), (5, some (vI (2 : Int))), (34, some (vB true))]) (own' := [some (cellsR b2 59 [vU64 spans1.a0.a0, vU64 spans1.a0.a1, vU64 spans1.a1.a0, vU64 spans1.a1.a1, vU64 spans1.a2.a0, vU64 spans1.a2.a1]), some (cellsR b3 56 [vU64 steps1.a0, vU64 steps1.a1, vU64 steps1.a2]), some (cellsR b7 58 [vU64 spans1.a2.a0, vU64 spans1.a2.a1])]) (shr' := []) [3, 4, 16, 17, 6, 5, 34] [0, 1, 2] [] rfl rfl rfl rfl ?_
               refine Tk_condT rfl ?_
               refine Tk_seq (Tk_region (Tops_step rfl (OpT_assign rfl rfl rfl rfl) ?_))
               refine Tops_nil (Tk_wkS (fr' := [(2, some (vI (2 : Int)))]) (own' := []) (shr' := []) [2] [] [] rfl rfl rfl rfl ?_)
               obtain rfl := Option.some.inj h
               exact Tk_retV rfl rfl (resA (vs := [vI (2 : Int)]) rfl ⟨rfl, trivial⟩) [] [] rfl rfl rfl ⟨rfl, rfl, rfl⟩
             ·replace h := br_f hg7 h
              refine TA_seg (lo := 8) (hi := 12) htb rfl rfl (by kernel_rfl) (fun c L a w => Sat c ⟨[(3, some (.pointer (some ⟨b2, 0, none⟩))), (4, some (.pointer (some ⟨b3, 0, none⟩))), (16, some (.agg #[vU64 spans1.a0.a0, vU64 spans1.a0.a1, vU64 spans1.a1.a0, vU64 spans1.a1.a1, vU64 spans1.a2.a0, vU64 spans1.a2.a1])), (17, some (vI (2 : Int))), (6, some (.pointer (some ⟨b7, 0, none⟩))), (5, some (vI (2 : Int))), (28, some (vB ((spans1.a2.a0 % steps1.a2) != (0 : UInt64)))), (29, bif L 8 then some (.pointer (some ⟨b7, 0, none⟩)) else none), (30, bif L 9 then some (vU64 spans1.a2.a0) else none), (31, bif L 10 then some (.pointer (some ⟨b7, 1, none⟩)) else none), (32, bif L 11 then some (vU64 spans1.a2.a1) else none)], [(some (cellsR b2 59 [vU64 spans1.a0.a0, vU64 spans1.a0.a1, vU64 spans1.a1.a0, vU64 spans1.a1.a1, vU64 spans1.a2.a0, vU64 spans1.a2.a1]) : Option Res), (some (cellsR b3 56 [vU64 steps1.a0, vU64 steps1.a1, vU64 steps1.a2]) : Option Res), (some (cellsR b7 58 [vU64 spans1.a2.a0, vU64 spans1.a2.a1]) : Option Res)], []⟩ a w) [([], [9]), ([8], []), ([], [11]), ([10], [])] rfl (by kernel_rfl) ?_ (steps_cons ?_ (steps_cons ?_ (steps_cons ?_ (steps_cons ?_ (steps_nil))))) ?_
              ·intro a w hs
               exact hs.startF [29, 30, 31, 32] [0, 1, 2] [] rfl rfl rfl rfl
              ·intro L a w hv K Q hK
               have hs := hv
               refine wpOp_yes rfl rfl rfl hs (congrArg (fun b => some (Value.bool b)) hg7) (OpT_indexC rfl rfl rfl rfl rfl arrF58 (by decide)) ?_
               rintro _ rfl a' w' hs'
               exact hK a' w' (hs'.putF (i := 7) rfl [0, 1, 2] [] rfl rfl rfl rfl)
              ·intro L a w hv K Q hK
               have hs := hv
               refine wpOp_yes rfl rfl rfl hs (congrArg (fun b => some (Value.bool b)) hg7) (OpT_loadC rfl rfl rfl rfl tyF22 (i := 2) rfl rfl) ?_
               rintro _ rfl a' w' hs'
               exact hK a' w' (hs'.putF (i := 8) rfl [0, 1, 2] [] rfl rfl rfl rfl)
              ·intro L a w hv K Q hK
               have hs := hv
               refine wpOp_yes rfl rfl rfl hs (congrArg (fun b => some (Value.bool b)) hg7) (OpT_indexC rfl rfl rfl rfl rfl arrF58 (by decide)) ?_
               rintro _ rfl a' w' hs'
               exact hK a' w' (hs'.putF (i := 9) rfl [0, 1, 2] [] rfl rfl rfl rfl)
              ·intro L a w hv K Q hK
               have hs := hv
               refine wpOp_yes rfl rfl rfl hs (congrArg (fun b => some (Value.bool b)) hg7) (OpT_loadC rfl rfl rfl rfl tyF22 (i := 2) rfl rfl) ?_
               rintro _ rfl a' w' hs'
               exact hK a' w' (hs'.putF (i := 10) rfl [0, 1, 2] [] rfl rfl rfl rfl)
              ·intro L a w hL hv
               rw [allTrue hL] at hv
               have hs := hv
               refine (show TA _ _ _ 12 ⟨[(3, some (.pointer (some ⟨b2, 0, none⟩))), (4, some (.pointer (some ⟨b3, 0, none⟩))), (16, some (.agg #[vU64 spans1.a0.a0, vU64 spans1.a0.a1, vU64 spans1.a1.a0, vU64 spans1.a1.a1, vU64 spans1.a2.a0, vU64 spans1.a2.a1])), (17, some (vI (2 : Int))), (6, some (.pointer (some ⟨b7, 0, none⟩))), (5, some (vI (2 : Int))), (28, some (vB ((spans1.a2.a0 % steps1.a2) != (0 : UInt64)))), (30, some (vU64 spans1.a2.a0)), (32, some (vU64 spans1.a2.a1))], [some (cellsR b2 59 [vU64 spans1.a0.a0, vU64 spans1.a0.a1, vU64 spans1.a1.a0, vU64 spans1.a1.a1, vU64 spans1.a2.a0, vU64 spans1.a2.a1]), some (cellsR b3 56 [vU64 steps1.a0, vU64 steps1.a1, vU64 steps1.a2]), some (cellsR b7 58 [vU64 spans1.a2.a0, vU64 spans1.a2.a1])], []⟩ from ?_) a w (hs.wkS [3, 4, 16, 17, 6, 5, 28, 30, 32] [0, 1, 2] [] rfl rfl rfl rfl)
               clear hs hL
               obtain ⟨beyond3, hx7, h⟩ := ob_e h
               refine TA_yes htb (by kernel_rfl) rfl rfl rfl (congrArg (fun b => some (Value.bool b)) hg7) (OpT_call (w_layout_beyond hx7) [] [] rfl rfl rfl rfl rfl callee31 rfl rfl rfl rfl) ?_
               rintro _ ⟨_, _, _, ⟨rfl, rfl, rfl⟩, rfl⟩
               refine TA_step htb (by kernel_rfl) rfl rfl (OpT_pickF rfl rfl rfl (congrArg (fun b => some (Value.bool b)) hg7) rfl) ?_
               refine TA_end rfl ?_
               refine Tk_wkS (fr' := [(3, some (.pointer (some ⟨b2, 0, none⟩))), (4, some (.pointer (some ⟨b3, 0, none⟩))), (16, some (.agg #[vU64 spans1.a0.a0, vU64 spans1.a0.a1, vU64 spans1.a1.a0, vU64 spans1.a1.a1, vU64 spans1.a2.a0, vU64 spans1.a2.a1])), (17, some (vI (2 : Int))), (6, some (.pointer (some ⟨b7, 0, none⟩))), (5, some (vI (2 : Int))), (34, some (vB beyond3))]) (own' := [some (cellsR b2 59 [vU64 spans1.a0.a0, vU64 spans1.a0.a1, vU64 spans1.a1.a0, vU64 spans1.a1.a1, vU64 spans1.a2.a0, vU64 spans1.a2.a1]), some (cellsR b3 56 [vU64 steps1.a0, vU64 steps1.a1, vU64 steps1.a2]), some (cellsR b7 58 [vU64 spans1.a2.a0, vU64 spans1.a2.a1])]) (shr' := []) [3, 4, 16, 17, 6, 5, 34] [0, 1, 2] [] rfl rfl rfl rfl ?_
               rcases Bool.eq_false_or_eq_true (beyond3) with hg8 | hg8
               ·replace h := br_t hg8 h
                refine Tk_condT (congrArg (fun b => some (Value.bool b)) hg8) ?_
                refine Tk_seq (Tk_region (Tops_step rfl (OpT_assign rfl rfl rfl rfl) ?_))
                refine Tops_nil (Tk_wkS (fr' := [(2, some (vI (2 : Int)))]) (own' := []) (shr' := []) [2] [] [] rfl rfl rfl rfl ?_)
                obtain rfl := Option.some.inj h
                exact Tk_retV rfl rfl (resA (vs := [vI (2 : Int)]) rfl ⟨rfl, trivial⟩) [] [] rfl rfl rfl ⟨rfl, rfl, rfl⟩
               ·replace h := br_f hg8 h
                refine Tk_condF (congrArg (fun b => some (Value.bool b)) hg8) ?_
                refine Tk_skip (Tk_seq (Tk_region (Tops_step rfl (OpT_move rfl rfl rfl rfl) ?_)))
                refine Tops_step rfl (OpT_sliceArrH (m := (2 : Int)) rfl rfl rfl rfl rfl arrF59 (by decide) rfl) ?_
                refine Tops_step rfl (OpT_lenE rfl rfl rfl rfl Try.underlying67) ?_
                refine Tops_step rfl (OpT_move rfl rfl rfl rfl) ?_
                refine Tops_nil (Tk_wkS (fr' := [(3, some (.pointer (some ⟨b2, 0, none⟩))), (4, some (.pointer (some ⟨b3, 0, none⟩))), (16, some (.agg #[vU64 spans1.a0.a0, vU64 spans1.a0.a1, vU64 spans1.a1.a0, vU64 spans1.a1.a1, vU64 spans1.a2.a0, vU64 spans1.a2.a1])), (17, some (vI (2 : Int))), (6, some (.pointer (some ⟨b7, 0, none⟩))), (36, some (.slice (some ⟨b2, 0, none⟩) 2 3)), (37, some (vI (2 : Int))), (38, some (vI (0 : Int)))]) (own' := [some (cellsR b2 59 [vU64 spans1.a0.a0, vU64 spans1.a0.a1, vU64 spans1.a1.a0, vU64 spans1.a1.a1, vU64 spans1.a2.a0, vU64 spans1.a2.a1]), some (cellsR b3 56 [vU64 steps1.a0, vU64 steps1.a1, vU64 steps1.a2]), some (cellsR b7 58 [vU64 spans1.a2.a0, vU64 spans1.a2.a1])]) (shr' := []) [3, 4, 16, 17, 6, 36, 37, 38] [0, 1, 2] [] rfl rfl rfl rfl ?_)
                refine Tk_block (Tk_unroll 2 ?_)
                refine Tk_seq (Tk_region (Tops_step rfl (OpT_bin rfl rfl rfl rfl rfl (bin_lss_i (a := (0 : Int)) (b := (2 : Int)))) ?_))
                refine Tops_nil (Tk_seq (Tk_condT rfl ?_))
                refine Tk_skip (Tk_seq (Tk_block (Tk_seq (Tk_region (Tops_step rfl (OpT_idxSl (m := (0 : Int)) rfl rfl rfl rfl rfl slF67 (by decide)) ?_)))))
                refine Tops_step rfl (OpT_loadCA (vs := [vU64 spans1.a0.a0, vU64 spans1.a0.a1]) rfl rfl rfl rfl tyF58 (i := 0) rfl rfl rfl) ?_
                refine Tops_ex rfl (OpT_alloc rfl rfl rfl tyZ58) fun b8 => ?_
                refine Tops_step rfl (OpT_storeC (cs' := [vU64 spans1.a0.a0, vU64 spans1.a0.a1]) rfl rfl rfl rfl tyF58 (i := 3) rfl rfl rfl (one_of rfl) rfl) ?_
                refine Tops_nil (Tk_wkS (fr' := [(3, some (.pointer (some ⟨b2, 0, none⟩))), (4, some (.pointer (some ⟨b3, 0, none⟩))), (16, some (.agg #[vU64 spans1.a0.a0, vU64 spans1.a0.a1, vU64 spans1.a1.a0, vU64 spans1.a1.a1, vU64 spans1.a2.a0, vU64 spans1.a2.a1])), (17, some (vI (2 : Int))), (6, some (.pointer (some ⟨b7, 0, none⟩))), (36, some (.slice (some ⟨b2, 0, none⟩) 2 3)), (37, some (vI (2 : Int))), (38, some (vI (0 : Int))), (8, some (.pointer (some ⟨b8, 0, none⟩)))]) (own' := [some (cellsR b2 59 [vU64 spans1.a0.a0, vU64 spans1.a0.a1, vU64 spans1.a1.a0, vU64 spans1.a1.a1, vU64 spans1.a2.a0, vU64 spans1.a2.a1]), some (cellsR b3 56 [vU64 steps1.a0, vU64 steps1.a1, vU64 steps1.a2]), some (cellsR b7 58 [vU64 spans1.a2.a0, vU64 spans1.a2.a1]), some (cellsR b8 58 [vU64 spans1.a0.a0, vU64 spans1.a0.a1])]) (shr' := []) [3, 4, 16, 17, 6, 36, 37, 38, 8] [0, 1, 2, 3] [] rfl rfl rfl rfl ?_)
                refine Tk_seq (Tk_region (Tops_step rfl (OpT_indexC rfl rfl rfl rfl rfl arrF58 (by decide)) ?_))
                refine Tops_step rfl (OpT_loadC rfl rfl rfl rfl tyF22 (i := 2) rfl rfl) ?_
                refine Tops_step rfl (OpT_indexC rfl rfl rfl rfl rfl arrF58 (by decide)) ?_
                refine Tops_step rfl (OpT_loadC rfl rfl rfl rfl tyF22 (i := 2) rfl rfl) ?_
                refine Tops_step rfl (OpT_indexC rfl rfl rfl rfl rfl arrF58 (by decide)) ?_
                refine Tops_step rfl (OpT_loadC rfl rfl rfl rfl tyF22 (i := 3) rfl rfl) ?_
                refine Tops_step rfl (OpT_indexC rfl rfl rfl rfl rfl arrF58 (by decide)) ?_
                refine Tops_step rfl (OpT_loadC rfl rfl rfl rfl tyF22 (i := 3) rfl rfl) ?_
                obtain ⟨common2, hx8, h⟩ := ob_e h
                refine Tops_exP rfl (OpT_call (w_layout_common hx8) [] [] rfl rfl rfl rfl rfl callee32 rfl rfl rfl rfl) ?_
                rintro _ ⟨_, _, _, ⟨rfl, rfl, rfl⟩, rfl⟩
                refine Tops_nil (Tk_wkS (fr' := [(3, some (.pointer (some ⟨b2, 0, none⟩))), (4, some (.pointer (some ⟨b3, 0, none⟩))), (16, some (.agg #[vU64 spans1.a0.a0, vU64 spans1.a0.a1, vU64 spans1.a1.a0, vU64 spans1.a1.a1, vU64 spans1.a2.a0, vU64 spans1.a2.a1])), (17, some (vI (2 : Int))), (6, some (.pointer (some ⟨b7, 0, none⟩))), (36, some (.slice (some ⟨b2, 0, none⟩) 2 3)), (37, some (vI (2 : Int))), (38, some (vI (0 : Int))), (50, some (vB common2))]) (own' := [some (cellsR b2 59 [vU64 spans1.a0.a0, vU64 spans1.a0.a1, vU64 spans1.a1.a0, vU64 spans1.a1.a1, vU64 spans1.a2.a0, vU64 spans1.a2.a1]), some (cellsR b3 56 [vU64 steps1.a0, vU64 steps1.a1, vU64 steps1.a2]), some (cellsR b7 58 [vU64 spans1.a2.a0, vU64 spans1.a2.a1])]) (shr' := []) [3, 4, 16, 17, 6, 36, 37, 38, 50] [0, 1, 2] [] rfl rfl rfl rfl ?_)
                rcases Bool.eq_false_or_eq_true (common2) with hg9 | hg9
                ·replace h := br_t hg9 h
                 refine Tk_condT (congrArg (fun b => some (Value.bool b)) hg9) ?_
                 refine Tk_seq (Tk_region (Tops_step rfl (OpT_assign rfl rfl rfl rfl) ?_))
                 refine Tops_nil (Tk_wkS (fr' := [(2, some (vI (2 : Int)))]) (own' := []) (shr' := []) [2] [] [] rfl rfl rfl rfl ?_)
                 obtain rfl := Option.some.inj h
                 exact Tk_retV rfl rfl (resA (vs := [vI (2 : Int)]) rfl ⟨rfl, trivial⟩) [] [] rfl rfl rfl ⟨rfl, rfl, rfl⟩
                ·replace h := br_f hg9 h
                 refine Tk_condF (congrArg (fun b => some (Value.bool b)) hg9) ?_
                 refine Tk_skip (Tk_blk (Tk_region (Tops_step rfl (OpT_bin rfl rfl rfl rfl rfl (bin_add_i (a := (0 : Int)) (b := (1 : Int)))) ?_)))
                 refine Tops_step rfl (OpT_move rfl rfl rfl rfl) ?_
                 refine Tops_nil (Tk_wkS (fr' := [(3, some (.pointer (some ⟨b2, 0, none⟩))), (4, some (.pointer (some ⟨b3, 0, none⟩))), (16, some (.agg #[vU64 spans1.a0.a0, vU64 spans1.a0.a1, vU64 spans1.a1.a0, vU64 spans1.a1.a1, vU64 spans1.a2.a0, vU64 spans1.a2.a1])), (17, some (vI (2 : Int))), (6, some (.pointer (some ⟨b7, 0, none⟩))), (36, some (.slice (some ⟨b2, 0, none⟩) 2 3)), (37, some (vI (2 : Int))), (38, some (vI (1 : Int)))]) (own' := [some (cellsR b2 59 [vU64 spans1.a0.a0, vU64 spans1.a0.a1, vU64 spans1.a1.a0, vU64 spans1.a1.a1, vU64 spans1.a2.a0, vU64 spans1.a2.a1]), some (cellsR b3 56 [vU64 steps1.a0, vU64 steps1.a1, vU64 steps1.a2]), some (cellsR b7 58 [vU64 spans1.a2.a0, vU64 spans1.a2.a1])]) (shr' := []) [3, 4, 16, 17, 6, 36, 37, 38] [0, 1, 2] [] rfl rfl rfl rfl ?_)
                 refine Tk_round ?_
                 refine Tk_seq (Tk_region (Tops_step rfl (OpT_bin rfl rfl rfl rfl rfl (bin_lss_i (a := (1 : Int)) (b := (2 : Int)))) ?_))
                 refine Tops_nil (Tk_seq (Tk_condT rfl ?_))
                 refine Tk_skip (Tk_seq (Tk_block (Tk_seq (Tk_region (Tops_step rfl (OpT_idxSl (m := (1 : Int)) rfl rfl rfl rfl rfl slF67 (by decide)) ?_)))))
                 refine Tops_step rfl (OpT_loadCA (vs := [vU64 spans1.a1.a0, vU64 spans1.a1.a1]) rfl rfl rfl rfl tyF58 (i := 0) rfl rfl rfl) ?_
                 refine Tops_ex rfl (OpT_alloc rfl rfl rfl tyZ58) fun b9 => ?_
                 refine Tops_step rfl (OpT_storeC (cs' := [vU64 spans1.a1.a0, vU64 spans1.a1.a1]) rfl rfl rfl rfl tyF58 (i := 3) rfl rfl rfl (one_of rfl) rfl) ?_
                 refine Tops_nil (Tk_wkS (fr' := [(3, some (.pointer (some ⟨b2, 0, none⟩))), (4, some (.pointer (some ⟨b3, 0, none⟩))), (16, some (.agg #[vU64 spans1.a0.a0, vU64 spans1.a0.a1, vU64 spans1.a1.a0, vU64 spans1.a1.a1, vU64 spans1.a2.a0, vU64 spans1.a2.a1])), (17, some (vI (2 : Int))), (6, some (.pointer (some ⟨b7, 0, none⟩))), (36, some (.slice (some ⟨b2, 0, none⟩) 2 3)), (37, some (vI (2 : Int))), (38, some (vI (1 : Int))), (8, some (.pointer (some ⟨b9, 0, none⟩)))]) (own' := [some (cellsR b2 59 [vU64 spans1.a0.a0, vU64 spans1.a0.a1, vU64 spans1.a1.a0, vU64 spans1.a1.a1, vU64 spans1.a2.a0, vU64 spans1.a2.a1]), some (cellsR b3 56 [vU64 steps1.a0, vU64 steps1.a1, vU64 steps1.a2]), some (cellsR b7 58 [vU64 spans1.a2.a0, vU64 spans1.a2.a1]), some (cellsR b9 58 [vU64 spans1.a1.a0, vU64 spans1.a1.a1])]) (shr' := []) [3, 4, 16, 17, 6, 36, 37, 38, 8] [0, 1, 2, 3] [] rfl rfl rfl rfl ?_)
                 refine Tk_seq (Tk_region (Tops_step rfl (OpT_indexC rfl rfl rfl rfl rfl arrF58 (by decide)) ?_))
                 refine Tops_step rfl (OpT_loadC rfl rfl rfl rfl tyF22 (i := 2) rfl rfl) ?_
                 refine Tops_step rfl (OpT_indexC rfl rfl rfl rfl rfl arrF58 (by decide)) ?_
                 refine Tops_step rfl (OpT_loadC rfl rfl rfl rfl tyF22 (i := 2) rfl rfl) ?_
                 refine Tops_step rfl (OpT_indexC rfl rfl rfl rfl rfl arrF58 (by decide)) ?_
                 refine Tops_step rfl (OpT_loadC rfl rfl rfl rfl tyF22 (i := 3) rfl rfl) ?_
                 refine Tops_step rfl (OpT_indexC rfl rfl rfl rfl rfl arrF58 (by decide)) ?_
                 refine Tops_step rfl (OpT_loadC rfl rfl rfl rfl tyF22 (i := 3) rfl rfl) ?_
                 obtain ⟨common3, hx9, h⟩ := ob_e h
                 refine Tops_exP rfl (OpT_call (w_layout_common hx9) [] [] rfl rfl rfl rfl rfl callee32 rfl rfl rfl rfl) ?_
                 rintro _ ⟨_, _, _, ⟨rfl, rfl, rfl⟩, rfl⟩
                 refine Tops_nil (Tk_wkS (fr' := [(3, some (.pointer (some ⟨b2, 0, none⟩))), (4, some (.pointer (some ⟨b3, 0, none⟩))), (16, some (.agg #[vU64 spans1.a0.a0, vU64 spans1.a0.a1, vU64 spans1.a1.a0, vU64 spans1.a1.a1, vU64 spans1.a2.a0, vU64 spans1.a2.a1])), (17, some (vI (2 : Int))), (6, some (.pointer (some ⟨b7, 0, none⟩))), (36, some (.slice (some ⟨b2, 0, none⟩) 2 3)), (37, some (vI (2 : Int))), (38, some (vI (1 : Int))), (50, some (vB common3))]) (own' := [some (cellsR b2 59 [vU64 spans1.a0.a0, vU64 spans1.a0.a1, vU64 spans1.a1.a0, vU64 spans1.a1.a1, vU64 spans1.a2.a0, vU64 spans1.a2.a1]), some (cellsR b3 56 [vU64 steps1.a0, vU64 steps1.a1, vU64 steps1.a2]), some (cellsR b7 58 [vU64 spans1.a2.a0, vU64 spans1.a2.a1])]) (shr' := []) [3, 4, 16, 17, 6, 36, 37, 38, 50] [0, 1, 2] [] rfl rfl rfl rfl ?_)
                 rcases Bool.eq_false_or_eq_true (common3) with hg10 | hg10
                 ·replace h := br_t hg10 h
                  refine Tk_condT (congrArg (fun b => some (Value.bool b)) hg10) ?_
                  refine Tk_seq (Tk_region (Tops_step rfl (OpT_assign rfl rfl rfl rfl) ?_))
                  refine Tops_nil (Tk_wkS (fr' := [(2, some (vI (2 : Int)))]) (own' := []) (shr' := []) [2] [] [] rfl rfl rfl rfl ?_)
                  obtain rfl := Option.some.inj h
                  exact Tk_retV rfl rfl (resA (vs := [vI (2 : Int)]) rfl ⟨rfl, trivial⟩) [] [] rfl rfl rfl ⟨rfl, rfl, rfl⟩
                 ·replace h := br_f hg10 h
                  refine Tk_condF (congrArg (fun b => some (Value.bool b)) hg10) ?_
                  refine Tk_skip (Tk_blk (Tk_region (Tops_step rfl (OpT_bin rfl rfl rfl rfl rfl (bin_add_i (a := (1 : Int)) (b := (1 : Int)))) ?_)))
                  refine Tops_step rfl (OpT_move rfl rfl rfl rfl) ?_
                  refine Tops_nil (Tk_wkS (fr' := [(3, some (.pointer (some ⟨b2, 0, none⟩))), (4, some (.pointer (some ⟨b3, 0, none⟩))), (16, some (.agg #[vU64 spans1.a0.a0, vU64 spans1.a0.a1, vU64 spans1.a1.a0, vU64 spans1.a1.a1, vU64 spans1.a2.a0, vU64 spans1.a2.a1])), (17, some (vI (2 : Int))), (6, some (.pointer (some ⟨b7, 0, none⟩))), (36, some (.slice (some ⟨b2, 0, none⟩) 2 3)), (37, some (vI (2 : Int))), (38, some (vI (2 : Int)))]) (own' := [some (cellsR b2 59 [vU64 spans1.a0.a0, vU64 spans1.a0.a1, vU64 spans1.a1.a0, vU64 spans1.a1.a1, vU64 spans1.a2.a0, vU64 spans1.a2.a1]), some (cellsR b3 56 [vU64 steps1.a0, vU64 steps1.a1, vU64 steps1.a2]), some (cellsR b7 58 [vU64 spans1.a2.a0, vU64 spans1.a2.a1])]) (shr' := []) [3, 4, 16, 17, 6, 36, 37, 38] [0, 1, 2] [] rfl rfl rfl rfl ?_)
                  refine Tk_round ?_
                  refine Tk_seq (Tk_region (Tops_step rfl (OpT_bin rfl rfl rfl rfl rfl (bin_lss_i (a := (2 : Int)) (b := (2 : Int)))) ?_))
                  refine Tops_nil (Tk_seq (Tk_condF rfl ?_))
                  refine Tk_exit _ rfl ?_
                  refine Tk_blk (Tk_region (Tops_step rfl (OpT_bin rfl rfl rfl rfl rfl (bin_add_i (a := (2 : Int)) (b := (1 : Int)))) ?_))
                  refine Tops_step rfl (OpT_move rfl rfl rfl rfl) ?_
                  refine Tops_nil (Tk_wkS (fr' := [(3, some (.pointer (some ⟨b2, 0, none⟩))), (4, some (.pointer (some ⟨b3, 0, none⟩))), (16, some (.agg #[vU64 spans1.a0.a0, vU64 spans1.a0.a1, vU64 spans1.a1.a0, vU64 spans1.a1.a1, vU64 spans1.a2.a0, vU64 spans1.a2.a1])), (17, some (vI (3 : Int)))]) (own' := [some (cellsR b2 59 [vU64 spans1.a0.a0, vU64 spans1.a0.a1, vU64 spans1.a1.a0, vU64 spans1.a1.a1, vU64 spans1.a2.a0, vU64 spans1.a2.a1]), some (cellsR b3 56 [vU64 steps1.a0, vU64 steps1.a1, vU64 steps1.a2])]) (shr' := []) [3, 4, 16, 17] [0, 1] [] rfl rfl rfl rfl ?_)
                  refine Tk_round ?_
                  refine Tk_seq (Tk_region (Tops_step rfl (OpT_bin rfl rfl rfl rfl rfl (bin_lss_i (a := (3 : Int)) (b := (3 : Int)))) ?_))
                  refine Tops_nil (Tk_seq (Tk_condF rfl ?_))
                  refine Tk_exit _ rfl ?_
                  refine Tk_seq (Tk_region (Tops_step rfl (OpT_assign rfl rfl rfl rfl) ?_))
                  refine Tops_nil (Tk_wkS (fr' := [(2, some (vI (0 : Int)))]) (own' := []) (shr' := []) [2] [] [] rfl rfl rfl rfl ?_)
                  obtain rfl := Option.some.inj h
                  exact Tk_retV rfl rfl (resA (vs := [vI (0 : Int)]) rfl ⟨rfl, trivial⟩) [] [] rfl rfl rfl ⟨rfl, rfl, rfl⟩
end Go.Proofs.Ytbeendakebamhaa
