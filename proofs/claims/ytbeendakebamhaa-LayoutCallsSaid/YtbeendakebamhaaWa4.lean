/- The functions do what the plain words say: each is walked once. No statement of the seat is proved here; no condition. -/
import Derived.Test.YtbeendakebamhaaWa3
namespace Go.Proofs.Ytbeendakebamhaa

set_option maxRecDepth 100000 in
set_option maxHeartbeats 4000000 in
theorem w_ref_Over04 {rp0 : Rings} {atp1 : UInt64} {np2 : UInt64} {r : Bool} (h : ref_Over04 rp0 atp1 np2 = some r) :
  Ctr Try.prog 21 #[.agg #[vB rp0.Packed, vI rp0.Size, vU64 rp0.Desc, vU64 rp0.Driver, vU64 rp0.Device], vU64 atp1, vU64 np2] [] []
   (fun rv own shr => rv = vB r ∧ own = [] ∧ shr = []) := by
 unfold ref_Over04 at h
 refine Ctr.mk (args := [.agg #[vB rp0.Packed, vI rp0.Size, vU64 rp0.Desc, vU64 rp0.Driver, vU64 rp0.Device], vU64 atp1, vU64 np2]) Try.func21 rfl rfl (fun R0 w0 B => ?_)
 refine Tk_seq (Tk_region (Tops_ex rfl (OpT_box rfl rfl rfl rfl) fun b1 => ?_))
 refine Tops_step rfl (OpT_assign rfl rfl rfl rfl) ?_
 refine Tops_nil (Tk_wkS (fr' := [(1, some (vU64 atp1)), (2, some (vU64 np2)), (3, some (.pointer (some ⟨b1, 0, none⟩)))]) (own' := [some (cellsR b1 27 [vB rp0.Packed, vI rp0.Size, vU64 rp0.Desc, vU64 rp0.Driver, vU64 rp0.Device])]) (shr' := []) [1, 2, 3] [0] [] rfl rfl rfl rfl ?_)
 refine Tk_seq (Tk_seq (Tk_region (Tops_step rfl (OpT_loadCA (vs := [vB rp0.Packed, vI rp0.Size, vU64 rp0.Desc, vU64 rp0.Driver, vU64 rp0.Device]) rfl rfl rfl rfl tyF27 (i := 0) rfl rfl rfl) ?_)))
 obtain ⟨check1, hx1, h⟩ := ob_e h
 refine Tops_exP rfl (OpT_call (w_ref_Check04 hx1) [] [] rfl rfl rfl rfl rfl callee20 rfl rfl rfl rfl) ?_
 rintro _ ⟨_, _, _, ⟨rfl, rfl, rfl⟩, rfl⟩
 refine Tops_step rfl (OpT_bin rfl rfl rfl rfl rfl (bin_neq_i (a := check1) (b := (0 : Int)))) ?_
 refine Tops_nil (Tk_wkS (fr' := [(1, some (vU64 atp1)), (2, some (vU64 np2)), (3, some (.pointer (some ⟨b1, 0, none⟩))), (12, some (vB (check1 != (0 : Int))))]) (own' := [some (cellsR b1 27 [vB rp0.Packed, vI rp0.Size, vU64 rp0.Desc, vU64 rp0.Driver, vU64 rp0.Device])]) (shr' := []) [1, 2, 3, 12] [0] [] rfl rfl rfl rfl ?_)
 rcases Bool.eq_false_or_eq_true (check1 != (0 : Int)) with hg1 | hg1
 ·replace h := br_t hg1 h
  refine Tk_condT (congrArg (fun b => some (Value.bool b)) hg1) ?_
  refine Tk_seq (Tk_region (Tops_step rfl (OpT_assign rfl rfl rfl rfl) ?_))
  refine Tops_nil (Tk_wkS (fr' := [(6, some (vB false))]) (own' := []) (shr' := []) [6] [] [] rfl rfl rfl rfl ?_)
  obtain rfl := Option.some.inj h
  exact Tk_retV rfl rfl (resA (vs := [vB false]) rfl ⟨rfl, trivial⟩) [] [] rfl rfl rfl ⟨rfl, rfl, rfl⟩
 ·replace h := br_f hg1 h
  refine Tk_condF (congrArg (fun b => some (Value.bool b)) hg1) ?_
  refine Tk_skip (Tk_seq (Tk_region (Tops_step rfl (OpT_loadCA (vs := [vB rp0.Packed, vI rp0.Size, vU64 rp0.Desc, vU64 rp0.Driver, vU64 rp0.Device]) rfl rfl rfl rfl tyF27 (i := 0) rfl rfl rfl) ?_)))
  obtain ⟨parts1, hx2, h⟩ := ob_e h
  refine Tops_exP rfl (OpT_call (w_ref_Parts04 hx2) [] [] rfl rfl rfl rfl rfl callee19 rfl rfl rfl rfl) ?_
  rintro _ ⟨_, _, _, ⟨rfl, rfl, rfl⟩, rfl⟩
  refine Tops_step rfl (OpT_move rfl rfl rfl rfl) ?_
  refine Tops_step rfl (OpT_extract rfl rfl rfl rfl rfl) ?_
  refine Tops_step rfl (OpT_extract rfl rfl rfl rfl rfl) ?_
  refine Tops_step rfl (OpT_extract rfl rfl rfl rfl rfl) ?_
  refine Tops_step rfl (OpT_assign rfl rfl rfl rfl) ?_
  refine Tops_step rfl (OpT_assign rfl rfl rfl rfl) ?_
  refine Tops_step rfl (OpT_assign rfl rfl rfl rfl) ?_
  refine Tops_nil (Tk_wkS (fr' := [(1, some (vU64 atp1)), (2, some (vU64 np2)), (3, some (.pointer (some ⟨b1, 0, none⟩))), (7, some (vU64 parts1.1)), (8, some (vU64 parts1.2.1)), (9, some (vU64 parts1.2.2))]) (own' := [some (cellsR b1 27 [vB rp0.Packed, vI rp0.Size, vU64 rp0.Desc, vU64 rp0.Driver, vU64 rp0.Device])]) (shr' := []) [1, 2, 3, 7, 8, 9] [0] [] rfl rfl rfl rfl ?_)
  refine Tk_seq (Tk_region (Tops_step rfl (OpT_move rfl rfl rfl rfl) ?_))
  refine Tops_step rfl (OpT_move rfl rfl rfl rfl) ?_
  refine Tops_step rfl (OpT_fieldC rfl rfl rfl rfl fldF27x2) ?_
  refine Tops_step rfl (OpT_loadC rfl rfl rfl rfl tyF22 (i := 0) rfl rfl) ?_
  refine Tops_step rfl (OpT_move rfl rfl rfl rfl) ?_
  obtain ⟨common1, hx3, h⟩ := ob_e h
  refine Tops_exP rfl (OpT_call (w_ref_common04 hx3) [] [] rfl rfl rfl rfl rfl callee38 rfl rfl rfl rfl) ?_
  rintro _ ⟨_, _, _, ⟨rfl, rfl, rfl⟩, rfl⟩
  refine Tops_step rfl (OpT_move rfl rfl rfl rfl) ?_
  rcases Bool.eq_false_or_eq_true (common1) with hg2 | hg2
  ·replace h := br_t hg2 h
   refine Tops_no rfl rfl (congrArg (fun b => some (Value.bool b)) hg2) rfl rfl ?_
   refine Tops_no rfl rfl (congrArg (fun b => some (Value.bool b)) hg2) rfl rfl ?_
   refine Tops_no rfl rfl (congrArg (fun b => some (Value.bool b)) hg2) rfl rfl ?_
   refine Tops_no rfl rfl (congrArg (fun b => some (Value.bool b)) hg2) rfl rfl ?_
   refine Tops_no rfl rfl (congrArg (fun b => some (Value.bool b)) hg2) rfl rfl ?_
   refine Tops_no rfl rfl (congrArg (fun b => some (Value.bool b)) hg2) rfl rfl ?_
   refine Tops_step rfl (OpT_pickT rfl rfl rfl (congrArg (fun b => some (Value.bool b)) hg2) rfl) ?_
   refine Tops_step rfl (OpT_move rfl rfl rfl rfl) ?_
   refine Tops_no rfl rfl rfl rfl rfl ?_
   refine Tops_no rfl rfl rfl rfl rfl ?_
   refine Tops_no rfl rfl rfl rfl rfl ?_
   refine Tops_no rfl rfl rfl rfl rfl ?_
   refine Tops_no rfl rfl rfl rfl rfl ?_
   refine Tops_no rfl rfl rfl rfl rfl ?_
   refine Tops_step rfl (OpT_pickT rfl rfl rfl rfl rfl) ?_
   refine Tops_step rfl (OpT_assign rfl rfl rfl rfl) ?_
   refine Tops_nil (Tk_wkS (fr' := [(6, some (vB true))]) (own' := []) (shr' := []) [6] [] [] rfl rfl rfl rfl ?_)
   obtain rfl := Option.some.inj h
   exact Tk_retV rfl rfl (resA (vs := [vB true]) rfl ⟨rfl, trivial⟩) [] [] rfl rfl rfl ⟨rfl, rfl, rfl⟩
  ·replace h := br_f hg2 h
   refine Tops_yes rfl rfl (congrArg (fun b => some (Value.bool b)) hg2) (OpT_move rfl rfl rfl rfl) ?_
   rintro _ rfl
   refine Tops_yes rfl rfl (congrArg (fun b => some (Value.bool b)) hg2) (OpT_move rfl rfl rfl rfl) ?_
   rintro _ rfl
   refine Tops_yes rfl rfl (congrArg (fun b => some (Value.bool b)) hg2) (OpT_fieldC rfl rfl rfl rfl fldF27x3) ?_
   rintro _ rfl
   refine Tops_yes rfl rfl (congrArg (fun b => some (Value.bool b)) hg2) (OpT_loadC rfl rfl rfl rfl tyF22 (i := 0) rfl rfl) ?_
   rintro _ rfl
   refine Tops_yes rfl rfl (congrArg (fun b => some (Value.bool b)) hg2) (OpT_move rfl rfl rfl rfl) ?_
   rintro _ rfl
   obtain ⟨common2, hx4, h⟩ := ob_e h
   refine Tops_yes rfl rfl (congrArg (fun b => some (Value.bool b)) hg2) (OpT_call (w_ref_common04 hx4) [] [] rfl rfl rfl rfl rfl callee38 rfl rfl rfl rfl) ?_
   rintro _ ⟨_, _, _, ⟨rfl, rfl, rfl⟩, rfl⟩
   refine Tops_step rfl (OpT_pickF rfl rfl rfl (congrArg (fun b => some (Value.bool b)) hg2) rfl) ?_
   refine Tops_step rfl (OpT_move rfl rfl rfl rfl) ?_
   rcases Bool.eq_false_or_eq_true (common2) with hg3 | hg3
   ·replace h := br_t hg3 h
    refine Tops_no rfl rfl (congrArg (fun b => some (Value.bool b)) hg3) rfl rfl ?_
    refine Tops_no rfl rfl (congrArg (fun b => some (Value.bool b)) hg3) rfl rfl ?_
    refine Tops_no rfl rfl (congrArg (fun b => some (Value.bool b)) hg3) rfl rfl ?_
    refine Tops_no rfl rfl (congrArg (fun b => some (Value.bool b)) hg3) rfl rfl ?_
    refine Tops_no rfl rfl (congrArg (fun b => some (Value.bool b)) hg3) rfl rfl ?_
    refine Tops_no rfl rfl (congrArg (fun b => some (Value.bool b)) hg3) rfl rfl ?_
    refine Tops_step rfl (OpT_pickT rfl rfl rfl (congrArg (fun b => some (Value.bool b)) hg3) rfl) ?_
    refine Tops_step rfl (OpT_assign rfl rfl rfl rfl) ?_
    refine Tops_nil (Tk_wkS (fr' := [(6, some (vB true))]) (own' := []) (shr' := []) [6] [] [] rfl rfl rfl rfl ?_)
    obtain rfl := Option.some.inj h
    exact Tk_retV rfl rfl (resA (vs := [vB true]) rfl ⟨rfl, trivial⟩) [] [] rfl rfl rfl ⟨rfl, rfl, rfl⟩
   ·replace h := br_f hg3 h
    refine Tops_yes rfl rfl (congrArg (fun b => some (Value.bool b)) hg3) (OpT_move rfl rfl rfl rfl) ?_
    rintro _ rfl
    refine Tops_yes rfl rfl (congrArg (fun b => some (Value.bool b)) hg3) (OpT_move rfl rfl rfl rfl) ?_
    rintro _ rfl
    refine Tops_yes rfl rfl (congrArg (fun b => some (Value.bool b)) hg3) (OpT_fieldC rfl rfl rfl rfl fldF27x4) ?_
    rintro _ rfl
    refine Tops_yes rfl rfl (congrArg (fun b => some (Value.bool b)) hg3) (OpT_loadC rfl rfl rfl rfl tyF22 (i := 0) rfl rfl) ?_
    rintro _ rfl
    refine Tops_yes rfl rfl (congrArg (fun b => some (Value.bool b)) hg3) (OpT_move rfl rfl rfl rfl) ?_
    rintro _ rfl
    obtain ⟨common3, hx5, h⟩ := ob_e h
    refine Tops_yes rfl rfl (congrArg (fun b => some (Value.bool b)) hg3) (OpT_call (w_ref_common04 hx5) [] [] rfl rfl rfl rfl rfl callee38 rfl rfl rfl rfl) ?_
    rintro _ ⟨_, _, _, ⟨rfl, rfl, rfl⟩, rfl⟩
    refine Tops_step rfl (OpT_pickF rfl rfl rfl (congrArg (fun b => some (Value.bool b)) hg3) rfl) ?_
    refine Tops_step rfl (OpT_assign rfl rfl rfl rfl) ?_
    refine Tops_nil (Tk_wkS (fr' := [(6, some (vB common3))]) (own' := []) (shr' := []) [6] [] [] rfl rfl rfl rfl ?_)
    obtain rfl := Option.some.inj h
    exact Tk_retV rfl rfl (resA (vs := [vB common3]) rfl ⟨rfl, trivial⟩) [] [] rfl rfl rfl ⟨rfl, rfl, rfl⟩

set_option maxRecDepth 100000 in
set_option maxHeartbeats 4000000 in
theorem w_ref_Where04 {rp0 : Rings} {what : Int} {ip2 : Int} {r : (UInt64 × Int × Int)} (h : ref_Where04 rp0 what ip2 = some r) :
  Ctr Try.prog 22 #[.agg #[vB rp0.Packed, vI rp0.Size, vU64 rp0.Desc, vU64 rp0.Driver, vU64 rp0.Device], vI what, vI ip2] [] []
   (fun rv own shr => rv = .tuple #[vU64 r.1, vI r.2.1, vI r.2.2] ∧ own = [] ∧ shr = []) := by
 unfold ref_Where04 at h
 refine Ctr.mk (args := [.agg #[vB rp0.Packed, vI rp0.Size, vU64 rp0.Desc, vU64 rp0.Driver, vU64 rp0.Device], vI what, vI ip2]) Try.func22 rfl rfl (fun R0 w0 B => ?_)
 refine Tk_seq (Tk_region (Tops_ex rfl (OpT_box rfl rfl rfl rfl) fun b1 => ?_))
 refine Tops_step rfl (OpT_assign rfl rfl rfl rfl) ?_
 refine Tops_step rfl (OpT_assign rfl rfl rfl rfl) ?_
 refine Tops_step rfl (OpT_assign rfl rfl rfl rfl) ?_
 refine Tops_nil (Tk_wkS (fr' := [(1, some (vI what)), (2, some (vI ip2)), (3, some (.pointer (some ⟨b1, 0, none⟩)))]) (own' := [some (cellsR b1 27 [vB rp0.Packed, vI rp0.Size, vU64 rp0.Desc, vU64 rp0.Driver, vU64 rp0.Device])]) (shr' := []) [1, 2, 3] [0] [] rfl rfl rfl rfl ?_)
 refine Tk_seq (Tk_region (Tops_step rfl (OpT_move rfl rfl rfl rfl) ?_))
 refine Tops_step rfl (OpT_bin rfl rfl rfl rfl rfl (bin_eql_i (a := what) (b := (1 : Int)))) ?_
 refine Tops_step rfl (OpT_move rfl rfl rfl rfl) ?_
 rcases Bool.eq_false_or_eq_true (what == (1 : Int)) with hg1 | hg1
 ·replace h := br_t hg1 h
  refine Tops_no rfl rfl (congrArg (fun b => some (Value.bool b)) hg1) rfl rfl ?_
  refine Tops_no rfl rfl (congrArg (fun b => some (Value.bool b)) hg1) rfl rfl ?_
  refine Tops_step rfl (OpT_pickT rfl rfl rfl (congrArg (fun b => some (Value.bool b)) hg1) rfl) ?_
  refine Tops_step rfl (OpT_move rfl rfl rfl rfl) ?_
  refine Tops_no rfl rfl rfl rfl rfl ?_
  refine Tops_no rfl rfl rfl rfl rfl ?_
  refine Tops_step rfl (OpT_pickT rfl rfl rfl rfl rfl) ?_
  refine Tops_step rfl (OpT_assign rfl rfl rfl rfl) ?_
  refine Tops_nil (Tk_wkS (fr' := [(1, some (vI what)), (2, some (vI ip2)), (3, some (.pointer (some ⟨b1, 0, none⟩))), (9, some (vB true))]) (own' := [some (cellsR b1 27 [vB rp0.Packed, vI rp0.Size, vU64 rp0.Desc, vU64 rp0.Driver, vU64 rp0.Device])]) (shr' := []) [1, 2, 3, 9] [0] [] rfl rfl rfl rfl ?_)
  refine Tk_seq (Tk_seq (Tk_region (Tops_step rfl (OpT_loadCA (vs := [vB rp0.Packed, vI rp0.Size, vU64 rp0.Desc, vU64 rp0.Driver, vU64 rp0.Device]) rfl rfl rfl rfl tyF27 (i := 0) rfl rfl rfl) ?_)))
  obtain ⟨check1, hx1, h⟩ := ob_e h
  refine Tops_exP rfl (OpT_call (w_ref_Check04 hx1) [] [] rfl rfl rfl rfl rfl callee20 rfl rfl rfl rfl) ?_
  rintro _ ⟨_, _, _, ⟨rfl, rfl, rfl⟩, rfl⟩
  refine Tops_step rfl (OpT_bin rfl rfl rfl rfl rfl (bin_neq_i (a := check1) (b := (0 : Int)))) ?_
  refine Tops_step rfl (OpT_move rfl rfl rfl rfl) ?_
  rcases Bool.eq_false_or_eq_true (check1 != (0 : Int)) with hg2 | hg2
  ·replace h := br_t hg2 h
   refine Tops_no rfl rfl (congrArg (fun b => some (Value.bool b)) hg2) rfl rfl ?_
   refine Tops_no rfl rfl (congrArg (fun b => some (Value.bool b)) hg2) rfl rfl ?_
   refine Tops_step rfl (OpT_pickT rfl rfl rfl (congrArg (fun b => some (Value.bool b)) hg2) rfl) ?_
   refine Tops_step rfl (OpT_move rfl rfl rfl rfl) ?_
   refine Tops_no rfl rfl rfl rfl rfl ?_
   refine Tops_no rfl rfl rfl rfl rfl ?_
   refine Tops_no rfl rfl rfl rfl rfl ?_
   refine Tops_no rfl rfl rfl rfl rfl ?_
   refine Tops_step rfl (OpT_pickT rfl rfl rfl rfl rfl) ?_
   refine Tops_step rfl (OpT_move rfl rfl rfl rfl) ?_
   refine Tops_no rfl rfl rfl rfl rfl ?_
   refine Tops_no rfl rfl rfl rfl rfl ?_
   refine Tops_no rfl rfl rfl rfl rfl ?_
   refine Tops_noU rfl rfl rfl rfl rfl ?_
   refine Tops_noU rfl rfl rfl rfl rfl ?_
   refine Tops_no rfl rfl rfl rfl rfl ?_
   refine Tops_step rfl (OpT_pickT rfl rfl rfl rfl rfl) ?_
   refine Tops_nil (Tk_wkS (fr' := [(1, some (vI what)), (2, some (vI ip2)), (3, some (.pointer (some ⟨b1, 0, none⟩))), (42, some (vB true))]) (own' := [some (cellsR b1 27 [vB rp0.Packed, vI rp0.Size, vU64 rp0.Desc, vU64 rp0.Driver, vU64 rp0.Device])]) (shr' := []) [1, 2, 3, 42] [0] [] rfl rfl rfl rfl ?_)
   refine Tk_condT rfl ?_
   refine Tk_seq (Tk_region (Tops_step rfl (OpT_assign rfl rfl rfl rfl) ?_))
   refine Tops_step rfl (OpT_assign rfl rfl rfl rfl) ?_
   refine Tops_step rfl (OpT_assign rfl rfl rfl rfl) ?_
   refine Tops_nil (Tk_wkS (fr' := [(6, some (vU64 (0 : UInt64))), (7, some (vI (0 : Int))), (8, some (vI (2 : Int)))]) (own' := []) (shr' := []) [6, 7, 8] [] [] rfl rfl rfl rfl ?_)
   obtain rfl := Option.some.inj h
   exact Tk_retV rfl rfl (resA (vs := [vU64 (0 : UInt64), vI (0 : Int), vI (2 : Int)]) rfl ⟨rfl, rfl, rfl, trivial⟩) [] [] rfl rfl rfl ⟨rfl, rfl, rfl⟩
  ·replace h := br_f hg2 h
   refine Tops_yes rfl rfl (congrArg (fun b => some (Value.bool b)) hg2) (OpT_move rfl rfl rfl rfl) ?_
   rintro _ rfl
   refine Tops_yes rfl rfl (congrArg (fun b => some (Value.bool b)) hg2) (OpT_bin rfl rfl rfl rfl rfl (bin_lss_i (a := ip2) (b := (0 : Int)))) ?_
   rintro _ rfl
   refine Tops_step rfl (OpT_pickF rfl rfl rfl (congrArg (fun b => some (Value.bool b)) hg2) rfl) ?_
   refine Tops_step rfl (OpT_move rfl rfl rfl rfl) ?_
   rcases Bool.eq_false_or_eq_true (decide (ip2 < (0 : Int))) with hg3 | hg3
   ·replace h := br_t hg3 h
    refine Tops_no rfl rfl (congrArg (fun b => some (Value.bool b)) hg3) rfl rfl ?_
    refine Tops_no rfl rfl (congrArg (fun b => some (Value.bool b)) hg3) rfl rfl ?_
    refine Tops_no rfl rfl (congrArg (fun b => some (Value.bool b)) hg3) rfl rfl ?_
    refine Tops_no rfl rfl (congrArg (fun b => some (Value.bool b)) hg3) rfl rfl ?_
    refine Tops_step rfl (OpT_pickT rfl rfl rfl (congrArg (fun b => some (Value.bool b)) hg3) rfl) ?_
    refine Tops_step rfl (OpT_move rfl rfl rfl rfl) ?_
    refine Tops_no rfl rfl rfl rfl rfl ?_
    refine Tops_no rfl rfl rfl rfl rfl ?_
    refine Tops_no rfl rfl rfl rfl rfl ?_
    refine Tops_noU rfl rfl rfl rfl rfl ?_
    refine Tops_noU rfl rfl rfl rfl rfl ?_
    refine Tops_no rfl rfl rfl rfl rfl ?_
    refine Tops_step rfl (OpT_pickT rfl rfl rfl rfl rfl) ?_
    refine Tops_nil (Tk_wkS (fr' := [(1, some (vI what)), (2, some (vI ip2)), (3, some (.pointer (some ⟨b1, 0, none⟩))), (42, some (vB true))]) (own' := [some (cellsR b1 27 [vB rp0.Packed, vI rp0.Size, vU64 rp0.Desc, vU64 rp0.Driver, vU64 rp0.Device])]) (shr' := []) [1, 2, 3, 42] [0] [] rfl rfl rfl rfl ?_)
    refine Tk_condT rfl ?_
    refine Tk_seq (Tk_region (Tops_step rfl (OpT_assign rfl rfl rfl rfl) ?_))
    refine Tops_step rfl (OpT_assign rfl rfl rfl rfl) ?_
    refine Tops_step rfl (OpT_assign rfl rfl rfl rfl) ?_
    refine Tops_nil (Tk_wkS (fr' := [(6, some (vU64 (0 : UInt64))), (7, some (vI (0 : Int))), (8, some (vI (2 : Int)))]) (own' := []) (shr' := []) [6, 7, 8] [] [] rfl rfl rfl rfl ?_)
    obtain rfl := Option.some.inj h
    exact Tk_retV rfl rfl (resA (vs := [vU64 (0 : UInt64), vI (0 : Int), vI (2 : Int)]) rfl ⟨rfl, rfl, rfl, trivial⟩) [] [] rfl rfl rfl ⟨rfl, rfl, rfl⟩
   ·replace h := br_f hg3 h
    refine Tops_yes rfl rfl (congrArg (fun b => some (Value.bool b)) hg3) (OpT_move rfl rfl rfl rfl) ?_
    rintro _ rfl
    refine Tops_yes rfl rfl (congrArg (fun b => some (Value.bool b)) hg3) (OpT_fieldC rfl rfl rfl rfl fldF27x1) ?_
    rintro _ rfl
    refine Tops_yes rfl rfl (congrArg (fun b => some (Value.bool b)) hg3) (OpT_loadC rfl rfl rfl rfl tyF3 (i := 0) rfl rfl) ?_
    rintro _ rfl
    refine Tops_yes rfl rfl (congrArg (fun b => some (Value.bool b)) hg3) (OpT_bin rfl rfl rfl rfl rfl (bin_geq_i (a := ip2) (b := rp0.Size))) ?_
    rintro _ rfl
    refine Tops_step rfl (OpT_pickF rfl rfl rfl (congrArg (fun b => some (Value.bool b)) hg3) rfl) ?_
    refine Tops_step rfl (OpT_move rfl rfl rfl rfl) ?_
    rcases Bool.eq_false_or_eq_true (decide (ip2 ≥ rp0.Size)) with hg4 | hg4
    ·replace h := br_t hg4 h
     refine Tops_no rfl rfl (congrArg (fun b => some (Value.bool b)) hg4) rfl rfl ?_
     refine Tops_no rfl rfl (congrArg (fun b => some (Value.bool b)) hg4) rfl rfl ?_
     refine Tops_no rfl rfl (congrArg (fun b => some (Value.bool b)) hg4) rfl rfl ?_
     refine Tops_noU rfl rfl rfl rfl rfl ?_
     refine Tops_noU rfl rfl rfl rfl rfl ?_
     refine Tops_no rfl rfl (congrArg (fun b => some (Value.bool b)) hg4) rfl rfl ?_
     refine Tops_step rfl (OpT_pickT rfl rfl rfl (congrArg (fun b => some (Value.bool b)) hg4) rfl) ?_
     refine Tops_nil (Tk_wkS (fr' := [(1, some (vI what)), (2, some (vI ip2)), (3, some (.pointer (some ⟨b1, 0, none⟩))), (42, some (vB true))]) (own' := [some (cellsR b1 27 [vB rp0.Packed, vI rp0.Size, vU64 rp0.Desc, vU64 rp0.Driver, vU64 rp0.Device])]) (shr' := []) [1, 2, 3, 42] [0] [] rfl rfl rfl rfl ?_)
     refine Tk_condT rfl ?_
     refine Tk_seq (Tk_region (Tops_step rfl (OpT_assign rfl rfl rfl rfl) ?_))
     refine Tops_step rfl (OpT_assign rfl rfl rfl rfl) ?_
     refine Tops_step rfl (OpT_assign rfl rfl rfl rfl) ?_
     refine Tops_nil (Tk_wkS (fr' := [(6, some (vU64 (0 : UInt64))), (7, some (vI (0 : Int))), (8, some (vI (2 : Int)))]) (own' := []) (shr' := []) [6, 7, 8] [] [] rfl rfl rfl rfl ?_)
     obtain rfl := Option.some.inj h
     exact Tk_retV rfl rfl (resA (vs := [vU64 (0 : UInt64), vI (0 : Int), vI (2 : Int)]) rfl ⟨rfl, rfl, rfl, trivial⟩) [] [] rfl rfl rfl ⟨rfl, rfl, rfl⟩
    ·replace h := br_f hg4 h
     refine Tops_yes rfl rfl (congrArg (fun b => some (Value.bool b)) hg4) (OpT_move rfl rfl rfl rfl) ?_
     rintro _ rfl
     refine Tops_yes rfl rfl (congrArg (fun b => some (Value.bool b)) hg4) (OpT_not rfl rfl rfl rfl) ?_
     rintro _ rfl
     refine Tops_yes rfl rfl (congrArg (fun b => some (Value.bool b)) hg4) (OpT_move rfl rfl rfl rfl) ?_
     rintro _ rfl
     refine Tops_no rfl rfl (congrArg (fun b => some (Value.bool b)) (congrArg (!·) rfl)) rfl rfl ?_
     refine Tops_no rfl rfl (congrArg (fun b => some (Value.bool b)) (congrArg (!·) rfl)) rfl rfl ?_
     refine Tops_yes rfl rfl (congrArg (fun b => some (Value.bool b)) hg4) (OpT_pickF rfl rfl rfl (congrArg (fun b => some (Value.bool b)) (congrArg (!·) rfl)) rfl) ?_
     rintro _ rfl
     refine Tops_step rfl (OpT_pickF rfl rfl rfl (congrArg (fun b => some (Value.bool b)) hg4) rfl) ?_
     refine Tops_nil (Tk_wkS (fr' := [(1, some (vI what)), (2, some (vI ip2)), (3, some (.pointer (some ⟨b1, 0, none⟩))), (42, some (vB false))]) (own' := [some (cellsR b1 27 [vB rp0.Packed, vI rp0.Size, vU64 rp0.Desc, vU64 rp0.Driver, vU64 rp0.Device])]) (shr' := []) [1, 2, 3, 42] [0] [] rfl rfl rfl rfl ?_)
     refine Tk_condF rfl ?_
     refine Tk_skip (Tk_seq (Tk_region (Tops_step rfl (OpT_fieldC rfl rfl rfl rfl fldF27x1) ?_)))
     refine Tops_step rfl (OpT_loadC rfl rfl rfl rfl tyF3 (i := 0) rfl rfl) ?_
     refine Tops_step rfl (OpT_cnv rfl rfl rfl rfl (cnv_i_u64 (n := rp0.Size) Try.underlying3 Try.underlying22)) ?_
     refine Tops_step rfl (OpT_move rfl rfl rfl rfl) ?_
     refine Tops_step rfl (OpT_cnv rfl rfl rfl rfl (cnv_i_u64 (n := ip2) Try.underlying3 Try.underlying22)) ?_
     refine Tops_step rfl (OpT_assign rfl rfl rfl rfl) ?_
     refine Tops_step rfl (OpT_assign rfl rfl rfl rfl) ?_
     refine Tops_nil (Tk_wkS (fr' := [(1, some (vI what)), (3, some (.pointer (some ⟨b1, 0, none⟩))), (10, some (vU64 (u64 rp0.Size))), (11, some (vU64 (u64 ip2)))]) (own' := [some (cellsR b1 27 [vB rp0.Packed, vI rp0.Size, vU64 rp0.Desc, vU64 rp0.Driver, vU64 rp0.Device])]) (shr' := []) [1, 3, 10, 11] [0] [] rfl rfl rfl rfl ?_)
     refine Tk_seq (Tk_seq (Tk_region (Tops_step rfl (OpT_move rfl rfl rfl rfl) ?_)))
     refine Tops_step rfl (OpT_bin rfl rfl rfl rfl rfl (bin_eql_i (a := what) (b := (1 : Int)))) ?_
     refine Tops_nil (Tk_wkS (fr' := [(1, some (vI what)), (3, some (.pointer (some ⟨b1, 0, none⟩))), (10, some (vU64 (u64 rp0.Size))), (11, some (vU64 (u64 ip2))), (49, some (vB (what == (1 : Int))))]) (own' := [some (cellsR b1 27 [vB rp0.Packed, vI rp0.Size, vU64 rp0.Desc, vU64 rp0.Driver, vU64 rp0.Device])]) (shr' := []) [1, 3, 10, 11, 49] [0] [] rfl rfl rfl rfl ?_)
     refine Tk_condT (congrArg (fun b => some (Value.bool b)) hg1) ?_
     refine Tk_seq (Tk_region (Tops_step rfl (OpT_fieldC rfl rfl rfl rfl fldF27x2) ?_))
     refine Tops_step rfl (OpT_loadC rfl rfl rfl rfl tyF22 (i := 0) rfl rfl) ?_
     refine Tops_step rfl (OpT_move rfl rfl rfl rfl) ?_
     refine Tops_step rfl (OpT_bin rfl rfl rfl rfl rfl (bin_mul_u64 (a := (16 : UInt64)) (b := u64 ip2))) ?_
     refine Tops_step rfl (OpT_bin rfl rfl rfl rfl rfl (bin_add_u64 (a := rp0.Desc) (b := (16 : UInt64) * (u64 ip2)))) ?_
     refine Tops_step rfl (OpT_assign rfl rfl rfl rfl) ?_
     refine Tops_step rfl (OpT_assign rfl rfl rfl rfl) ?_
     refine Tops_step rfl (OpT_assign rfl rfl rfl rfl) ?_
     refine Tops_nil (Tk_wkS (fr' := [(6, some (vU64 (rp0.Desc + ((16 : UInt64) * (u64 ip2))))), (7, some (vI (16 : Int))), (8, some (vI (0 : Int)))]) (own' := []) (shr' := []) [6, 7, 8] [] [] rfl rfl rfl rfl ?_)
     obtain rfl := Option.some.inj h
     exact Tk_retV rfl rfl (resA (vs := [vU64 (rp0.Desc + ((16 : UInt64) * (u64 ip2))), vI (16 : Int), vI (0 : Int)]) rfl ⟨rfl, rfl, rfl, trivial⟩) [] [] rfl rfl rfl ⟨rfl, rfl, rfl⟩
 ·replace h := br_f hg1 h
  refine Tops_yes rfl rfl (congrArg (fun b => some (Value.bool b)) hg1) (OpT_move rfl rfl rfl rfl) ?_
  rintro _ rfl
  refine Tops_yes rfl rfl (congrArg (fun b => some (Value.bool b)) hg1) (OpT_bin rfl rfl rfl rfl rfl (bin_eql_i (a := what) (b := (4 : Int)))) ?_
  rintro _ rfl
  refine Tops_step rfl (OpT_pickF rfl rfl rfl (congrArg (fun b => some (Value.bool b)) hg1) rfl) ?_
  refine Tops_step rfl (OpT_move rfl rfl rfl rfl) ?_
  rcases Bool.eq_false_or_eq_true (what == (4 : Int)) with hg5 | hg5
  ·replace h := br_t hg5 h
   refine Tops_no rfl rfl (congrArg (fun b => some (Value.bool b)) hg5) rfl rfl ?_
   refine Tops_no rfl rfl (congrArg (fun b => some (Value.bool b)) hg5) rfl rfl ?_
   refine Tops_step rfl (OpT_pickT rfl rfl rfl (congrArg (fun b => some (Value.bool b)) hg5) rfl) ?_
   refine Tops_step rfl (OpT_assign rfl rfl rfl rfl) ?_
   refine Tops_nil (Tk_wkS (fr' := [(1, some (vI what)), (2, some (vI ip2)), (3, some (.pointer (some ⟨b1, 0, none⟩))), (9, some (vB true))]) (own' := [some (cellsR b1 27 [vB rp0.Packed, vI rp0.Size, vU64 rp0.Desc, vU64 rp0.Driver, vU64 rp0.Device])]) (shr' := []) [1, 2, 3, 9] [0] [] rfl rfl rfl rfl ?_)
   refine Tk_seq (Tk_seq (Tk_region (Tops_step rfl (OpT_loadCA (vs := [vB rp0.Packed, vI rp0.Size, vU64 rp0.Desc, vU64 rp0.Driver, vU64 rp0.Device]) rfl rfl rfl rfl tyF27 (i := 0) rfl rfl rfl) ?_)))
   obtain ⟨check2, hx2, h⟩ := ob_e h
   refine Tops_exP rfl (OpT_call (w_ref_Check04 hx2) [] [] rfl rfl rfl rfl rfl callee20 rfl rfl rfl rfl) ?_
   rintro _ ⟨_, _, _, ⟨rfl, rfl, rfl⟩, rfl⟩
   refine Tops_step rfl (OpT_bin rfl rfl rfl rfl rfl (bin_neq_i (a := check2) (b := (0 : Int)))) ?_
   refine Tops_step rfl (OpT_move rfl rfl rfl rfl) ?_
   rcases Bool.eq_false_or_eq_true (check2 != (0 : Int)) with hg6 | hg6
   ·replace h := br_t hg6 h
    refine Tops_no rfl rfl (congrArg (fun b => some (Value.bool b)) hg6) rfl rfl ?_
    refine Tops_no rfl rfl (congrArg (fun b => some (Value.bool b)) hg6) rfl rfl ?_
    refine Tops_step rfl (OpT_pickT rfl rfl rfl (congrArg (fun b => some (Value.bool b)) hg6) rfl) ?_
    refine Tops_step rfl (OpT_move rfl rfl rfl rfl) ?_
    refine Tops_no rfl rfl rfl rfl rfl ?_
    refine Tops_no rfl rfl rfl rfl rfl ?_
    refine Tops_no rfl rfl rfl rfl rfl ?_
    refine Tops_no rfl rfl rfl rfl rfl ?_
    refine Tops_step rfl (OpT_pickT rfl rfl rfl rfl rfl) ?_
    refine Tops_step rfl (OpT_move rfl rfl rfl rfl) ?_
    refine Tops_no rfl rfl rfl rfl rfl ?_
    refine Tops_no rfl rfl rfl rfl rfl ?_
    refine Tops_no rfl rfl rfl rfl rfl ?_
    refine Tops_noU rfl rfl rfl rfl rfl ?_
    refine Tops_noU rfl rfl rfl rfl rfl ?_
    refine Tops_no rfl rfl rfl rfl rfl ?_
    refine Tops_step rfl (OpT_pickT rfl rfl rfl rfl rfl) ?_
    refine Tops_nil (Tk_wkS (fr' := [(1, some (vI what)), (2, some (vI ip2)), (3, some (.pointer (some ⟨b1, 0, none⟩))), (42, some (vB true))]) (own' := [some (cellsR b1 27 [vB rp0.Packed, vI rp0.Size, vU64 rp0.Desc, vU64 rp0.Driver, vU64 rp0.Device])]) (shr' := []) [1, 2, 3, 42] [0] [] rfl rfl rfl rfl ?_)
    refine Tk_condT rfl ?_
    refine Tk_seq (Tk_region (Tops_step rfl (OpT_assign rfl rfl rfl rfl) ?_))
    refine Tops_step rfl (OpT_assign rfl rfl rfl rfl) ?_
    refine Tops_step rfl (OpT_assign rfl rfl rfl rfl) ?_
    refine Tops_nil (Tk_wkS (fr' := [(6, some (vU64 (0 : UInt64))), (7, some (vI (0 : Int))), (8, some (vI (2 : Int)))]) (own' := []) (shr' := []) [6, 7, 8] [] [] rfl rfl rfl rfl ?_)
    obtain rfl := Option.some.inj h
    exact Tk_retV rfl rfl (resA (vs := [vU64 (0 : UInt64), vI (0 : Int), vI (2 : Int)]) rfl ⟨rfl, rfl, rfl, trivial⟩) [] [] rfl rfl rfl ⟨rfl, rfl, rfl⟩
   ·replace h := br_f hg6 h
    refine Tops_yes rfl rfl (congrArg (fun b => some (Value.bool b)) hg6) (OpT_move rfl rfl rfl rfl) ?_
    rintro _ rfl
    refine Tops_yes rfl rfl (congrArg (fun b => some (Value.bool b)) hg6) (OpT_bin rfl rfl rfl rfl rfl (bin_lss_i (a := ip2) (b := (0 : Int)))) ?_
    rintro _ rfl
    refine Tops_step rfl (OpT_pickF rfl rfl rfl (congrArg (fun b => some (Value.bool b)) hg6) rfl) ?_
    refine Tops_step rfl (OpT_move rfl rfl rfl rfl) ?_
    rcases Bool.eq_false_or_eq_true (decide (ip2 < (0 : Int))) with hg7 | hg7
    ·replace h := br_t hg7 h
     refine Tops_no rfl rfl (congrArg (fun b => some (Value.bool b)) hg7) rfl rfl ?_
     refine Tops_no rfl rfl (congrArg (fun b => some (Value.bool b)) hg7) rfl rfl ?_
     refine Tops_no rfl rfl (congrArg (fun b => some (Value.bool b)) hg7) rfl rfl ?_
     refine Tops_no rfl rfl (congrArg (fun b => some (Value.bool b)) hg7) rfl rfl ?_
     refine Tops_step rfl (OpT_pickT rfl rfl rfl (congrArg (fun b => some (Value.bool b)) hg7) rfl) ?_
     refine Tops_step rfl (OpT_move rfl rfl rfl rfl) ?_
     refine Tops_no rfl rfl rfl rfl rfl ?_
     refine Tops_no rfl rfl rfl rfl rfl ?_
     refine Tops_no rfl rfl rfl rfl rfl ?_
     refine Tops_noU rfl rfl rfl rfl rfl ?_
     refine Tops_noU rfl rfl rfl rfl rfl ?_
     refine Tops_no rfl rfl rfl rfl rfl ?_
     refine Tops_step rfl (OpT_pickT rfl rfl rfl rfl rfl) ?_
     refine Tops_nil (Tk_wkS (fr' := [(1, some (vI what)), (2, some (vI ip2)), (3, some (.pointer (some ⟨b1, 0, none⟩))), (42, some (vB true))]) (own' := [some (cellsR b1 27 [vB rp0.Packed, vI rp0.Size, vU64 rp0.Desc, vU64 rp0.Driver, vU64 rp0.Device])]) (shr' := []) [1, 2, 3, 42] [0] [] rfl rfl rfl rfl ?_)
     refine Tk_condT rfl ?_
     refine Tk_seq (Tk_region (Tops_step rfl (OpT_assign rfl rfl rfl rfl) ?_))
     refine Tops_step rfl (OpT_assign rfl rfl rfl rfl) ?_
     refine Tops_step rfl (OpT_assign rfl rfl rfl rfl) ?_
     refine Tops_nil (Tk_wkS (fr' := [(6, some (vU64 (0 : UInt64))), (7, some (vI (0 : Int))), (8, some (vI (2 : Int)))]) (own' := []) (shr' := []) [6, 7, 8] [] [] rfl rfl rfl rfl ?_)
     obtain rfl := Option.some.inj h
     exact Tk_retV rfl rfl (resA (vs := [vU64 (0 : UInt64), vI (0 : Int), vI (2 : Int)]) rfl ⟨rfl, rfl, rfl, trivial⟩) [] [] rfl rfl rfl ⟨rfl, rfl, rfl⟩
    ·replace h := br_f hg7 h
     refine Tops_yes rfl rfl (congrArg (fun b => some (Value.bool b)) hg7) (OpT_move rfl rfl rfl rfl) ?_
     rintro _ rfl
     refine Tops_yes rfl rfl (congrArg (fun b => some (Value.bool b)) hg7) (OpT_fieldC rfl rfl rfl rfl fldF27x1) ?_
     rintro _ rfl
     refine Tops_yes rfl rfl (congrArg (fun b => some (Value.bool b)) hg7) (OpT_loadC rfl rfl rfl rfl tyF3 (i := 0) rfl rfl) ?_
     rintro _ rfl
     refine Tops_yes rfl rfl (congrArg (fun b => some (Value.bool b)) hg7) (OpT_bin rfl rfl rfl rfl rfl (bin_geq_i (a := ip2) (b := rp0.Size))) ?_
     rintro _ rfl
     refine Tops_step rfl (OpT_pickF rfl rfl rfl (congrArg (fun b => some (Value.bool b)) hg7) rfl) ?_
     refine Tops_step rfl (OpT_move rfl rfl rfl rfl) ?_
     rcases Bool.eq_false_or_eq_true (decide (ip2 ≥ rp0.Size)) with hg8 | hg8
     ·replace h := br_t hg8 h
      refine Tops_no rfl rfl (congrArg (fun b => some (Value.bool b)) hg8) rfl rfl ?_
      refine Tops_no rfl rfl (congrArg (fun b => some (Value.bool b)) hg8) rfl rfl ?_
      refine Tops_no rfl rfl (congrArg (fun b => some (Value.bool b)) hg8) rfl rfl ?_
      refine Tops_noU rfl rfl rfl rfl rfl ?_
      refine Tops_noU rfl rfl rfl rfl rfl ?_
      refine Tops_no rfl rfl (congrArg (fun b => some (Value.bool b)) hg8) rfl rfl ?_
      refine Tops_step rfl (OpT_pickT rfl rfl rfl (congrArg (fun b => some (Value.bool b)) hg8) rfl) ?_
      refine Tops_nil (Tk_wkS (fr' := [(1, some (vI what)), (2, some (vI ip2)), (3, some (.pointer (some ⟨b1, 0, none⟩))), (42, some (vB true))]) (own' := [some (cellsR b1 27 [vB rp0.Packed, vI rp0.Size, vU64 rp0.Desc, vU64 rp0.Driver, vU64 rp0.Device])]) (shr' := []) [1, 2, 3, 42] [0] [] rfl rfl rfl rfl ?_)
      refine Tk_condT rfl ?_
      refine Tk_seq (Tk_region (Tops_step rfl (OpT_assign rfl rfl rfl rfl) ?_))
      refine Tops_step rfl (OpT_assign rfl rfl rfl rfl) ?_
      refine Tops_step rfl (OpT_assign rfl rfl rfl rfl) ?_
      refine Tops_nil (Tk_wkS (fr' := [(6, some (vU64 (0 : UInt64))), (7, some (vI (0 : Int))), (8, some (vI (2 : Int)))]) (own' := []) (shr' := []) [6, 7, 8] [] [] rfl rfl rfl rfl ?_)
      obtain rfl := Option.some.inj h
      exact Tk_retV rfl rfl (resA (vs := [vU64 (0 : UInt64), vI (0 : Int), vI (2 : Int)]) rfl ⟨rfl, rfl, rfl, trivial⟩) [] [] rfl rfl rfl ⟨rfl, rfl, rfl⟩
     ·replace h := br_f hg8 h
      refine Tops_yes rfl rfl (congrArg (fun b => some (Value.bool b)) hg8) (OpT_move rfl rfl rfl rfl) ?_
      rintro _ rfl
      refine Tops_yes rfl rfl (congrArg (fun b => some (Value.bool b)) hg8) (OpT_not rfl rfl rfl rfl) ?_
      rintro _ rfl
      refine Tops_yes rfl rfl (congrArg (fun b => some (Value.bool b)) hg8) (OpT_move rfl rfl rfl rfl) ?_
      rintro _ rfl
      refine Tops_no rfl rfl (congrArg (fun b => some (Value.bool b)) (congrArg (!·) rfl)) rfl rfl ?_
      refine Tops_no rfl rfl (congrArg (fun b => some (Value.bool b)) (congrArg (!·) rfl)) rfl rfl ?_
      refine Tops_yes rfl rfl (congrArg (fun b => some (Value.bool b)) hg8) (OpT_pickF rfl rfl rfl (congrArg (fun b => some (Value.bool b)) (congrArg (!·) rfl)) rfl) ?_
      rintro _ rfl
      refine Tops_step rfl (OpT_pickF rfl rfl rfl (congrArg (fun b => some (Value.bool b)) hg8) rfl) ?_
      refine Tops_nil (Tk_wkS (fr' := [(1, some (vI what)), (2, some (vI ip2)), (3, some (.pointer (some ⟨b1, 0, none⟩))), (42, some (vB false))]) (own' := [some (cellsR b1 27 [vB rp0.Packed, vI rp0.Size, vU64 rp0.Desc, vU64 rp0.Driver, vU64 rp0.Device])]) (shr' := []) [1, 2, 3, 42] [0] [] rfl rfl rfl rfl ?_)
      refine Tk_condF rfl ?_
      refine Tk_skip (Tk_seq (Tk_region (Tops_step rfl (OpT_fieldC rfl rfl rfl rfl fldF27x1) ?_)))
      refine Tops_step rfl (OpT_loadC rfl rfl rfl rfl tyF3 (i := 0) rfl rfl) ?_
      refine Tops_step rfl (OpT_cnv rfl rfl rfl rfl (cnv_i_u64 (n := rp0.Size) Try.underlying3 Try.underlying22)) ?_
      refine Tops_step rfl (OpT_move rfl rfl rfl rfl) ?_
      refine Tops_step rfl (OpT_cnv rfl rfl rfl rfl (cnv_i_u64 (n := ip2) Try.underlying3 Try.underlying22)) ?_
      refine Tops_step rfl (OpT_assign rfl rfl rfl rfl) ?_
      refine Tops_step rfl (OpT_assign rfl rfl rfl rfl) ?_
      refine Tops_nil (Tk_wkS (fr' := [(1, some (vI what)), (3, some (.pointer (some ⟨b1, 0, none⟩))), (10, some (vU64 (u64 rp0.Size))), (11, some (vU64 (u64 ip2)))]) (own' := [some (cellsR b1 27 [vB rp0.Packed, vI rp0.Size, vU64 rp0.Desc, vU64 rp0.Driver, vU64 rp0.Device])]) (shr' := []) [1, 3, 10, 11] [0] [] rfl rfl rfl rfl ?_)
      refine Tk_seq (Tk_seq (Tk_region (Tops_step rfl (OpT_move rfl rfl rfl rfl) ?_)))
      refine Tops_step rfl (OpT_bin rfl rfl rfl rfl rfl (bin_eql_i (a := what) (b := (1 : Int)))) ?_
      refine Tops_nil (Tk_wkS (fr' := [(1, some (vI what)), (3, some (.pointer (some ⟨b1, 0, none⟩))), (10, some (vU64 (u64 rp0.Size))), (11, some (vU64 (u64 ip2))), (49, some (vB (what == (1 : Int))))]) (own' := [some (cellsR b1 27 [vB rp0.Packed, vI rp0.Size, vU64 rp0.Desc, vU64 rp0.Driver, vU64 rp0.Device])]) (shr' := []) [1, 3, 10, 11, 49] [0] [] rfl rfl rfl rfl ?_)
      refine Tk_condF (congrArg (fun b => some (Value.bool b)) hg1) ?_
      refine Tk_skip (Tk_seq (Tk_seq (Tk_region (Tops_step rfl (OpT_fieldC rfl rfl rfl rfl fldF27x0) ?_))))
      refine Tops_step rfl (OpT_loadC rfl rfl rfl rfl tyF4 (i := 0) rfl rfl) ?_
      refine Tops_nil (Tk_wkS (fr' := [(1, some (vI what)), (3, some (.pointer (some ⟨b1, 0, none⟩))), (10, some (vU64 (u64 rp0.Size))), (11, some (vU64 (u64 ip2))), (56, some (vB rp0.Packed))]) (own' := [some (cellsR b1 27 [vB rp0.Packed, vI rp0.Size, vU64 rp0.Desc, vU64 rp0.Driver, vU64 rp0.Device])]) (shr' := []) [1, 3, 10, 11, 56] [0] [] rfl rfl rfl rfl ?_)
      rcases Bool.eq_false_or_eq_true (rp0.Packed) with hg9 | hg9
      ·replace h := br_t hg9 h
       refine Tk_condT (congrArg (fun b => some (Value.bool b)) hg9) ?_
       refine Tk_seq (Tk_seq (Tk_region (Tops_step rfl (OpT_move rfl rfl rfl rfl) ?_)))
       refine Tops_nil (Tk_wkS (fr' := [(3, some (.pointer (some ⟨b1, 0, none⟩))), (57, some (vI what))]) (own' := [some (cellsR b1 27 [vB rp0.Packed, vI rp0.Size, vU64 rp0.Desc, vU64 rp0.Driver, vU64 rp0.Device])]) (shr' := []) [3, 57] [0] [] rfl rfl rfl rfl ?_)
       refine Tk_block (Tk_seq (Tk_region (Tops_step rfl (OpT_bin rfl rfl rfl rfl rfl (bin_eql_i (a := what) (b := (10 : Int)))) ?_)))
       refine Tops_step rfl (OpT_assign rfl rfl rfl rfl) ?_
       refine Tops_nil (Tk_wkS (fr' := [(3, some (.pointer (some ⟨b1, 0, none⟩))), (57, some (vI what)), (58, some (vB (what == (10 : Int))))]) (own' := [some (cellsR b1 27 [vB rp0.Packed, vI rp0.Size, vU64 rp0.Desc, vU64 rp0.Driver, vU64 rp0.Device])]) (shr' := []) [3, 57, 58] [0] [] rfl rfl rfl rfl ?_)
       rcases Bool.eq_false_or_eq_true (what == (10 : Int)) with hg10 | hg10
       ·replace h := br_t hg10 h
        refine Tk_condT (congrArg (fun b => some (Value.bool b)) hg10) ?_
        refine Tk_seq (Tk_region (Tops_step rfl (OpT_fieldC rfl rfl rfl rfl fldF27x3) ?_))
        refine Tops_step rfl (OpT_loadC rfl rfl rfl rfl tyF22 (i := 0) rfl rfl) ?_
        refine Tops_step rfl (OpT_assign rfl rfl rfl rfl) ?_
        refine Tops_step rfl (OpT_assign rfl rfl rfl rfl) ?_
        refine Tops_step rfl (OpT_assign rfl rfl rfl rfl) ?_
        refine Tops_nil (Tk_wkS (fr' := [(6, some (vU64 rp0.Driver)), (7, some (vI (4 : Int))), (8, some (vI (0 : Int)))]) (own' := []) (shr' := []) [6, 7, 8] [] [] rfl rfl rfl rfl ?_)
        obtain rfl := Option.some.inj h
        exact Tk_retV rfl rfl (resA (vs := [vU64 rp0.Driver, vI (4 : Int), vI (0 : Int)]) rfl ⟨rfl, rfl, rfl, trivial⟩) [] [] rfl rfl rfl ⟨rfl, rfl, rfl⟩
       ·replace h := br_f hg10 h
        refine Tk_condF (congrArg (fun b => some (Value.bool b)) hg10) ?_
        refine Tk_seq (Tk_region (Tops_step rfl (OpT_bin rfl rfl rfl rfl rfl (bin_eql_i (a := what) (b := (11 : Int)))) ?_))
        refine Tops_step rfl (OpT_assign rfl rfl rfl rfl) ?_
        refine Tops_nil (Tk_wkS (fr' := [(3, some (.pointer (some ⟨b1, 0, none⟩))), (62, some (vB (what == (11 : Int))))]) (own' := [some (cellsR b1 27 [vB rp0.Packed, vI rp0.Size, vU64 rp0.Desc, vU64 rp0.Driver, vU64 rp0.Device])]) (shr' := []) [3, 62] [0] [] rfl rfl rfl rfl ?_)
        rcases Bool.eq_false_or_eq_true (what == (11 : Int)) with hg11 | hg11
        ·replace h := br_t hg11 h
         refine Tk_condT (congrArg (fun b => some (Value.bool b)) hg11) ?_
         refine Tk_seq (Tk_region (Tops_step rfl (OpT_fieldC rfl rfl rfl rfl fldF27x4) ?_))
         refine Tops_step rfl (OpT_loadC rfl rfl rfl rfl tyF22 (i := 0) rfl rfl) ?_
         refine Tops_step rfl (OpT_assign rfl rfl rfl rfl) ?_
         refine Tops_step rfl (OpT_assign rfl rfl rfl rfl) ?_
         refine Tops_step rfl (OpT_assign rfl rfl rfl rfl) ?_
         refine Tops_nil (Tk_wkS (fr' := [(6, some (vU64 rp0.Device)), (7, some (vI (4 : Int))), (8, some (vI (0 : Int)))]) (own' := []) (shr' := []) [6, 7, 8] [] [] rfl rfl rfl rfl ?_)
         obtain rfl := Option.some.inj h
         exact Tk_retV rfl rfl (resA (vs := [vU64 rp0.Device, vI (4 : Int), vI (0 : Int)]) rfl ⟨rfl, rfl, rfl, trivial⟩) [] [] rfl rfl rfl ⟨rfl, rfl, rfl⟩
        ·replace h := br_f hg11 h
         refine Tk_condF (congrArg (fun b => some (Value.bool b)) hg11) ?_
         refine Tk_skip (Tk_blk (Tk_seq (Tk_region (Tops_step rfl (OpT_assign rfl rfl rfl rfl) ?_))))
         refine Tops_step rfl (OpT_assign rfl rfl rfl rfl) ?_
         refine Tops_step rfl (OpT_assign rfl rfl rfl rfl) ?_
         refine Tops_nil (Tk_wkS (fr' := [(6, some (vU64 (0 : UInt64))), (7, some (vI (0 : Int))), (8, some (vI (2 : Int)))]) (own' := []) (shr' := []) [6, 7, 8] [] [] rfl rfl rfl rfl ?_)
         obtain rfl := Option.some.inj h
         exact Tk_retV rfl rfl (resA (vs := [vU64 (0 : UInt64), vI (0 : Int), vI (2 : Int)]) rfl ⟨rfl, rfl, rfl, trivial⟩) [] [] rfl rfl rfl ⟨rfl, rfl, rfl⟩
      ·replace h := br_f hg9 h
       refine Tk_condF (congrArg (fun b => some (Value.bool b)) hg9) ?_
       refine Tk_skip (Tk_seq (Tk_seq (Tk_region (Tops_step rfl (OpT_move rfl rfl rfl rfl) ?_))))
       refine Tops_nil (Tk_wkS (fr' := [(3, some (.pointer (some ⟨b1, 0, none⟩))), (10, some (vU64 (u64 rp0.Size))), (11, some (vU64 (u64 ip2))), (66, some (vI what))]) (own' := [some (cellsR b1 27 [vB rp0.Packed, vI rp0.Size, vU64 rp0.Desc, vU64 rp0.Driver, vU64 rp0.Device])]) (shr' := []) [3, 10, 11, 66] [0] [] rfl rfl rfl rfl ?_)
       refine Tk_block (Tk_seq (Tk_region (Tops_step rfl (OpT_bin rfl rfl rfl rfl rfl (bin_eql_i (a := what) (b := (2 : Int)))) ?_)))
       refine Tops_step rfl (OpT_assign rfl rfl rfl rfl) ?_
       refine Tops_nil (Tk_wkS (fr' := [(3, some (.pointer (some ⟨b1, 0, none⟩))), (10, some (vU64 (u64 rp0.Size))), (11, some (vU64 (u64 ip2))), (66, some (vI what)), (67, some (vB (what == (2 : Int))))]) (own' := [some (cellsR b1 27 [vB rp0.Packed, vI rp0.Size, vU64 rp0.Desc, vU64 rp0.Driver, vU64 rp0.Device])]) (shr' := []) [3, 10, 11, 66, 67] [0] [] rfl rfl rfl rfl ?_)
       rcases Bool.eq_false_or_eq_true (what == (2 : Int)) with hg12 | hg12
       ·replace h := br_t hg12 h
        refine Tk_condT (congrArg (fun b => some (Value.bool b)) hg12) ?_
        refine Tk_seq (Tk_region (Tops_step rfl (OpT_fieldC rfl rfl rfl rfl fldF27x3) ?_))
        refine Tops_step rfl (OpT_loadC rfl rfl rfl rfl tyF22 (i := 0) rfl rfl) ?_
        refine Tops_step rfl (OpT_assign rfl rfl rfl rfl) ?_
        refine Tops_step rfl (OpT_assign rfl rfl rfl rfl) ?_
        refine Tops_step rfl (OpT_assign rfl rfl rfl rfl) ?_
        refine Tops_nil (Tk_wkS (fr' := [(6, some (vU64 rp0.Driver)), (7, some (vI (2 : Int))), (8, some (vI (0 : Int)))]) (own' := []) (shr' := []) [6, 7, 8] [] [] rfl rfl rfl rfl ?_)
        obtain rfl := Option.some.inj h
        exact Tk_retV rfl rfl (resA (vs := [vU64 rp0.Driver, vI (2 : Int), vI (0 : Int)]) rfl ⟨rfl, rfl, rfl, trivial⟩) [] [] rfl rfl rfl ⟨rfl, rfl, rfl⟩
       ·replace h := br_f hg12 h
        refine Tk_condF (congrArg (fun b => some (Value.bool b)) hg12) ?_
        refine Tk_seq (Tk_region (Tops_step rfl (OpT_bin rfl rfl rfl rfl rfl (bin_eql_i (a := what) (b := (3 : Int)))) ?_))
        refine Tops_step rfl (OpT_assign rfl rfl rfl rfl) ?_
        refine Tops_nil (Tk_wkS (fr' := [(3, some (.pointer (some ⟨b1, 0, none⟩))), (10, some (vU64 (u64 rp0.Size))), (11, some (vU64 (u64 ip2))), (66, some (vI what)), (71, some (vB (what == (3 : Int))))]) (own' := [some (cellsR b1 27 [vB rp0.Packed, vI rp0.Size, vU64 rp0.Desc, vU64 rp0.Driver, vU64 rp0.Device])]) (shr' := []) [3, 10, 11, 66, 71] [0] [] rfl rfl rfl rfl ?_)
        rcases Bool.eq_false_or_eq_true (what == (3 : Int)) with hg13 | hg13
        ·replace h := br_t hg13 h
         refine Tk_condT (congrArg (fun b => some (Value.bool b)) hg13) ?_
         refine Tk_seq (Tk_region (Tops_step rfl (OpT_fieldC rfl rfl rfl rfl fldF27x3) ?_))
         refine Tops_step rfl (OpT_loadC rfl rfl rfl rfl tyF22 (i := 0) rfl rfl) ?_
         refine Tops_step rfl (OpT_bin rfl rfl rfl rfl rfl (bin_add_u64 (a := rp0.Driver) (b := (2 : UInt64)))) ?_
         refine Tops_step rfl (OpT_assign rfl rfl rfl rfl) ?_
         refine Tops_step rfl (OpT_assign rfl rfl rfl rfl) ?_
         refine Tops_step rfl (OpT_assign rfl rfl rfl rfl) ?_
         refine Tops_nil (Tk_wkS (fr' := [(6, some (vU64 (rp0.Driver + (2 : UInt64)))), (7, some (vI (2 : Int))), (8, some (vI (0 : Int)))]) (own' := []) (shr' := []) [6, 7, 8] [] [] rfl rfl rfl rfl ?_)
         obtain rfl := Option.some.inj h
         exact Tk_retV rfl rfl (resA (vs := [vU64 (rp0.Driver + (2 : UInt64)), vI (2 : Int), vI (0 : Int)]) rfl ⟨rfl, rfl, rfl, trivial⟩) [] [] rfl rfl rfl ⟨rfl, rfl, rfl⟩
        ·replace h := br_f hg13 h
         refine Tk_condF (congrArg (fun b => some (Value.bool b)) hg13) ?_
         refine Tk_seq (Tk_region (Tops_step rfl (OpT_bin rfl rfl rfl rfl rfl (bin_eql_i (a := what) (b := (4 : Int)))) ?_))
         refine Tops_step rfl (OpT_assign rfl rfl rfl rfl) ?_
         refine Tops_nil (Tk_wkS (fr' := [(3, some (.pointer (some ⟨b1, 0, none⟩))), (10, some (vU64 (u64 rp0.Size))), (11, some (vU64 (u64 ip2))), (66, some (vI what)), (76, some (vB (what == (4 : Int))))]) (own' := [some (cellsR b1 27 [vB rp0.Packed, vI rp0.Size, vU64 rp0.Desc, vU64 rp0.Driver, vU64 rp0.Device])]) (shr' := []) [3, 10, 11, 66, 76] [0] [] rfl rfl rfl rfl ?_)
         refine Tk_condT (congrArg (fun b => some (Value.bool b)) hg5) ?_
         refine Tk_seq (Tk_region (Tops_step rfl (OpT_fieldC rfl rfl rfl rfl fldF27x3) ?_))
         refine Tops_step rfl (OpT_loadC rfl rfl rfl rfl tyF22 (i := 0) rfl rfl) ?_
         refine Tops_step rfl (OpT_bin rfl rfl rfl rfl rfl (bin_add_u64 (a := rp0.Driver) (b := (4 : UInt64)))) ?_
         refine Tops_step rfl (OpT_move rfl rfl rfl rfl) ?_
         refine Tops_step rfl (OpT_bin rfl rfl rfl rfl rfl (bin_mul_u64 (a := (2 : UInt64)) (b := u64 ip2))) ?_
         refine Tops_step rfl (OpT_bin rfl rfl rfl rfl rfl (bin_add_u64 (a := rp0.Driver + (4 : UInt64)) (b := (2 : UInt64) * (u64 ip2)))) ?_
         refine Tops_step rfl (OpT_assign rfl rfl rfl rfl) ?_
         refine Tops_step rfl (OpT_assign rfl rfl rfl rfl) ?_
         refine Tops_step rfl (OpT_assign rfl rfl rfl rfl) ?_
         refine Tops_nil (Tk_wkS (fr' := [(6, some (vU64 ((rp0.Driver + (4 : UInt64)) + ((2 : UInt64) * (u64 ip2))))), (7, some (vI (2 : Int))), (8, some (vI (0 : Int)))]) (own' := []) (shr' := []) [6, 7, 8] [] [] rfl rfl rfl rfl ?_)
         obtain rfl := Option.some.inj h
         exact Tk_retV rfl rfl (resA (vs := [vU64 ((rp0.Driver + (4 : UInt64)) + ((2 : UInt64) * (u64 ip2))), vI (2 : Int), vI (0 : Int)]) rfl ⟨rfl, rfl, rfl, trivial⟩) [] [] rfl rfl rfl ⟨rfl, rfl, rfl⟩
  ·replace h := br_f hg5 h
   refine Tops_yes rfl rfl (congrArg (fun b => some (Value.bool b)) hg5) (OpT_move rfl rfl rfl rfl) ?_
   rintro _ rfl
   refine Tops_yes rfl rfl (congrArg (fun b => some (Value.bool b)) hg5) (OpT_bin rfl rfl rfl rfl rfl (bin_eql_i (a := what) (b := (8 : Int)))) ?_
   rintro _ rfl
   refine Tops_step rfl (OpT_pickF rfl rfl rfl (congrArg (fun b => some (Value.bool b)) hg5) rfl) ?_
   refine Tops_step rfl (OpT_assign rfl rfl rfl rfl) ?_
   refine Tops_nil (Tk_wkS (fr' := [(1, some (vI what)), (2, some (vI ip2)), (3, some (.pointer (some ⟨b1, 0, none⟩))), (9, some (vB (what == (8 : Int))))]) (own' := [some (cellsR b1 27 [vB rp0.Packed, vI rp0.Size, vU64 rp0.Desc, vU64 rp0.Driver, vU64 rp0.Device])]) (shr' := []) [1, 2, 3, 9] [0] [] rfl rfl rfl rfl ?_)
   refine Tk_seq (Tk_seq (Tk_region (Tops_step rfl (OpT_loadCA (vs := [vB rp0.Packed, vI rp0.Size, vU64 rp0.Desc, vU64 rp0.Driver, vU64 rp0.Device]) rfl rfl rfl rfl tyF27 (i := 0) rfl rfl rfl) ?_)))
   obtain ⟨check3, hx3, h⟩ := ob_e h
   refine Tops_exP rfl (OpT_call (w_ref_Check04 hx3) [] [] rfl rfl rfl rfl rfl callee20 rfl rfl rfl rfl) ?_
   rintro _ ⟨_, _, _, ⟨rfl, rfl, rfl⟩, rfl⟩
   refine Tops_step rfl (OpT_bin rfl rfl rfl rfl rfl (bin_neq_i (a := check3) (b := (0 : Int)))) ?_
   refine Tops_step rfl (OpT_move rfl rfl rfl rfl) ?_
   rcases Bool.eq_false_or_eq_true (check3 != (0 : Int)) with hg14 | hg14
   ·replace h := br_t hg14 h
    refine Tops_no rfl rfl (congrArg (fun b => some (Value.bool b)) hg14) rfl rfl ?_
    refine Tops_no rfl rfl (congrArg (fun b => some (Value.bool b)) hg14) rfl rfl ?_
    refine Tops_step rfl (OpT_pickT rfl rfl rfl (congrArg (fun b => some (Value.bool b)) hg14) rfl) ?_
    refine Tops_step rfl (OpT_move rfl rfl rfl rfl) ?_
    refine Tops_no rfl rfl rfl rfl rfl ?_
    refine Tops_no rfl rfl rfl rfl rfl ?_
    refine Tops_no rfl rfl rfl rfl rfl ?_
    refine Tops_no rfl rfl rfl rfl rfl ?_
    refine Tops_step rfl (OpT_pickT rfl rfl rfl rfl rfl) ?_
    refine Tops_step rfl (OpT_move rfl rfl rfl rfl) ?_
    refine Tops_no rfl rfl rfl rfl rfl ?_
    refine Tops_no rfl rfl rfl rfl rfl ?_
    refine Tops_no rfl rfl rfl rfl rfl ?_
    refine Tops_noU rfl rfl rfl rfl rfl ?_
    refine Tops_noU rfl rfl rfl rfl rfl ?_
    refine Tops_no rfl rfl rfl rfl rfl ?_
    refine Tops_step rfl (OpT_pickT rfl rfl rfl rfl rfl) ?_
    refine Tops_nil (Tk_wkS (fr' := [(1, some (vI what)), (2, some (vI ip2)), (3, some (.pointer (some ⟨b1, 0, none⟩))), (42, some (vB true))]) (own' := [some (cellsR b1 27 [vB rp0.Packed, vI rp0.Size, vU64 rp0.Desc, vU64 rp0.Driver, vU64 rp0.Device])]) (shr' := []) [1, 2, 3, 42] [0] [] rfl rfl rfl rfl ?_)
    refine Tk_condT rfl ?_
    refine Tk_seq (Tk_region (Tops_step rfl (OpT_assign rfl rfl rfl rfl) ?_))
    refine Tops_step rfl (OpT_assign rfl rfl rfl rfl) ?_
    refine Tops_step rfl (OpT_assign rfl rfl rfl rfl) ?_
    refine Tops_nil (Tk_wkS (fr' := [(6, some (vU64 (0 : UInt64))), (7, some (vI (0 : Int))), (8, some (vI (2 : Int)))]) (own' := []) (shr' := []) [6, 7, 8] [] [] rfl rfl rfl rfl ?_)
    obtain rfl := Option.some.inj h
    exact Tk_retV rfl rfl (resA (vs := [vU64 (0 : UInt64), vI (0 : Int), vI (2 : Int)]) rfl ⟨rfl, rfl, rfl, trivial⟩) [] [] rfl rfl rfl ⟨rfl, rfl, rfl⟩
   ·replace h := br_f hg14 h
    refine Tops_yes rfl rfl (congrArg (fun b => some (Value.bool b)) hg14) (OpT_move rfl rfl rfl rfl) ?_
    rintro _ rfl
    refine Tops_yes rfl rfl (congrArg (fun b => some (Value.bool b)) hg14) (OpT_bin rfl rfl rfl rfl rfl (bin_lss_i (a := ip2) (b := (0 : Int)))) ?_
    rintro _ rfl
    refine Tops_step rfl (OpT_pickF rfl rfl rfl (congrArg (fun b => some (Value.bool b)) hg14) rfl) ?_
    refine Tops_step rfl (OpT_move rfl rfl rfl rfl) ?_
    rcases Bool.eq_false_or_eq_true (decide (ip2 < (0 : Int))) with hg15 | hg15
    ·replace h := br_t hg15 h
     refine Tops_no rfl rfl (congrArg (fun b => some (Value.bool b)) hg15) rfl rfl ?_
     refine Tops_no rfl rfl (congrArg (fun b => some (Value.bool b)) hg15) rfl rfl ?_
     refine Tops_no rfl rfl (congrArg (fun b => some (Value.bool b)) hg15) rfl rfl ?_
     refine Tops_no rfl rfl (congrArg (fun b => some (Value.bool b)) hg15) rfl rfl ?_
     refine Tops_step rfl (OpT_pickT rfl rfl rfl (congrArg (fun b => some (Value.bool b)) hg15) rfl) ?_
     refine Tops_step rfl (OpT_move rfl rfl rfl rfl) ?_
     refine Tops_no rfl rfl rfl rfl rfl ?_
     refine Tops_no rfl rfl rfl rfl rfl ?_
     refine Tops_no rfl rfl rfl rfl rfl ?_
     refine Tops_noU rfl rfl rfl rfl rfl ?_
     refine Tops_noU rfl rfl rfl rfl rfl ?_
     refine Tops_no rfl rfl rfl rfl rfl ?_
     refine Tops_step rfl (OpT_pickT rfl rfl rfl rfl rfl) ?_
     refine Tops_nil (Tk_wkS (fr' := [(1, some (vI what)), (2, some (vI ip2)), (3, some (.pointer (some ⟨b1, 0, none⟩))), (42, some (vB true))]) (own' := [some (cellsR b1 27 [vB rp0.Packed, vI rp0.Size, vU64 rp0.Desc, vU64 rp0.Driver, vU64 rp0.Device])]) (shr' := []) [1, 2, 3, 42] [0] [] rfl rfl rfl rfl ?_)
     refine Tk_condT rfl ?_
     refine Tk_seq (Tk_region (Tops_step rfl (OpT_assign rfl rfl rfl rfl) ?_))
     refine Tops_step rfl (OpT_assign rfl rfl rfl rfl) ?_
     refine Tops_step rfl (OpT_assign rfl rfl rfl rfl) ?_
     refine Tops_nil (Tk_wkS (fr' := [(6, some (vU64 (0 : UInt64))), (7, some (vI (0 : Int))), (8, some (vI (2 : Int)))]) (own' := []) (shr' := []) [6, 7, 8] [] [] rfl rfl rfl rfl ?_)
     obtain rfl := Option.some.inj h
     exact Tk_retV rfl rfl (resA (vs := [vU64 (0 : UInt64), vI (0 : Int), vI (2 : Int)]) rfl ⟨rfl, rfl, rfl, trivial⟩) [] [] rfl rfl rfl ⟨rfl, rfl, rfl⟩
    ·replace h := br_f hg15 h
     refine Tops_yes rfl rfl (congrArg (fun b => some (Value.bool b)) hg15) (OpT_move rfl rfl rfl rfl) ?_
     rintro _ rfl
     refine Tops_yes rfl rfl (congrArg (fun b => some (Value.bool b)) hg15) (OpT_fieldC rfl rfl rfl rfl fldF27x1) ?_
     rintro _ rfl
     refine Tops_yes rfl rfl (congrArg (fun b => some (Value.bool b)) hg15) (OpT_loadC rfl rfl rfl rfl tyF3 (i := 0) rfl rfl) ?_
     rintro _ rfl
     refine Tops_yes rfl rfl (congrArg (fun b => some (Value.bool b)) hg15) (OpT_bin rfl rfl rfl rfl rfl (bin_geq_i (a := ip2) (b := rp0.Size))) ?_
     rintro _ rfl
     refine Tops_step rfl (OpT_pickF rfl rfl rfl (congrArg (fun b => some (Value.bool b)) hg15) rfl) ?_
     refine Tops_step rfl (OpT_move rfl rfl rfl rfl) ?_
     rcases Bool.eq_false_or_eq_true (decide (ip2 ≥ rp0.Size)) with hg16 | hg16
     ·replace h := br_t hg16 h
      refine Tops_no rfl rfl (congrArg (fun b => some (Value.bool b)) hg16) rfl rfl ?_
      refine Tops_no rfl rfl (congrArg (fun b => some (Value.bool b)) hg16) rfl rfl ?_
      refine Tops_no rfl rfl (congrArg (fun b => some (Value.bool b)) hg16) rfl rfl ?_
      refine Tops_noU rfl rfl rfl rfl rfl ?_
      refine Tops_noU rfl rfl rfl rfl rfl ?_
      refine Tops_no rfl rfl (congrArg (fun b => some (Value.bool b)) hg16) rfl rfl ?_
      refine Tops_step rfl (OpT_pickT rfl rfl rfl (congrArg (fun b => some (Value.bool b)) hg16) rfl) ?_
      refine Tops_nil (Tk_wkS (fr' := [(1, some (vI what)), (2, some (vI ip2)), (3, some (.pointer (some ⟨b1, 0, none⟩))), (42, some (vB true))]) (own' := [some (cellsR b1 27 [vB rp0.Packed, vI rp0.Size, vU64 rp0.Desc, vU64 rp0.Driver, vU64 rp0.Device])]) (shr' := []) [1, 2, 3, 42] [0] [] rfl rfl rfl rfl ?_)
      refine Tk_condT rfl ?_
      refine Tk_seq (Tk_region (Tops_step rfl (OpT_assign rfl rfl rfl rfl) ?_))
      refine Tops_step rfl (OpT_assign rfl rfl rfl rfl) ?_
      refine Tops_step rfl (OpT_assign rfl rfl rfl rfl) ?_
      refine Tops_nil (Tk_wkS (fr' := [(6, some (vU64 (0 : UInt64))), (7, some (vI (0 : Int))), (8, some (vI (2 : Int)))]) (own' := []) (shr' := []) [6, 7, 8] [] [] rfl rfl rfl rfl ?_)
      obtain rfl := Option.some.inj h
      exact Tk_retV rfl rfl (resA (vs := [vU64 (0 : UInt64), vI (0 : Int), vI (2 : Int)]) rfl ⟨rfl, rfl, rfl, trivial⟩) [] [] rfl rfl rfl ⟨rfl, rfl, rfl⟩
     ·replace h := br_f hg16 h
      refine Tops_yes rfl rfl (congrArg (fun b => some (Value.bool b)) hg16) (OpT_move rfl rfl rfl rfl) ?_
      rintro _ rfl
      refine Tops_yes rfl rfl (congrArg (fun b => some (Value.bool b)) hg16) (OpT_not rfl rfl rfl rfl) ?_
      rintro _ rfl
      refine Tops_yes rfl rfl (congrArg (fun b => some (Value.bool b)) hg16) (OpT_move rfl rfl rfl rfl) ?_
      rintro _ rfl
      rcases Bool.eq_false_or_eq_true ((!(what == (8 : Int)))) with hg17 | hg17
      ·replace h := br_t hg17 h
       refine Tops_yes rfl rfl (congrArg (fun b => some (Value.bool b)) hg17) (OpT_move rfl rfl rfl rfl) ?_
       rintro _ rfl
       refine Tops_yes rfl rfl (congrArg (fun b => some (Value.bool b)) hg17) (OpT_bin rfl rfl rfl rfl rfl (bin_neq_i (a := ip2) (b := (0 : Int)))) ?_
       rintro _ rfl
       refine Tops_yes rfl rfl (congrArg (fun b => some (Value.bool b)) hg16) (OpT_pickT rfl rfl rfl (congrArg (fun b => some (Value.bool b)) hg17) rfl) ?_
       rintro _ rfl
       refine Tops_step rfl (OpT_pickF rfl rfl rfl (congrArg (fun b => some (Value.bool b)) hg16) rfl) ?_
       refine Tops_nil (Tk_wkS (fr' := [(1, some (vI what)), (2, some (vI ip2)), (3, some (.pointer (some ⟨b1, 0, none⟩))), (42, some (vB (ip2 != (0 : Int))))]) (own' := [some (cellsR b1 27 [vB rp0.Packed, vI rp0.Size, vU64 rp0.Desc, vU64 rp0.Driver, vU64 rp0.Device])]) (shr' := []) [1, 2, 3, 42] [0] [] rfl rfl rfl rfl ?_)
       rcases Bool.eq_false_or_eq_true (ip2 != (0 : Int)) with hg18 | hg18
       ·replace h := br_t hg18 h
        refine Tk_condT (congrArg (fun b => some (Value.bool b)) hg18) ?_
        refine Tk_seq (Tk_region (Tops_step rfl (OpT_assign rfl rfl rfl rfl) ?_))
        refine Tops_step rfl (OpT_assign rfl rfl rfl rfl) ?_
        refine Tops_step rfl (OpT_assign rfl rfl rfl rfl) ?_
        refine Tops_nil (Tk_wkS (fr' := [(6, some (vU64 (0 : UInt64))), (7, some (vI (0 : Int))), (8, some (vI (2 : Int)))]) (own' := []) (shr' := []) [6, 7, 8] [] [] rfl rfl rfl rfl ?_)
        obtain rfl := Option.some.inj h
        exact Tk_retV rfl rfl (resA (vs := [vU64 (0 : UInt64), vI (0 : Int), vI (2 : Int)]) rfl ⟨rfl, rfl, rfl, trivial⟩) [] [] rfl rfl rfl ⟨rfl, rfl, rfl⟩
       ·replace h := br_f hg18 h
        refine Tk_condF (congrArg (fun b => some (Value.bool b)) hg18) ?_
        refine Tk_skip (Tk_seq (Tk_region (Tops_step rfl (OpT_fieldC rfl rfl rfl rfl fldF27x1) ?_)))
        refine Tops_step rfl (OpT_loadC rfl rfl rfl rfl tyF3 (i := 0) rfl rfl) ?_
        refine Tops_step rfl (OpT_cnv rfl rfl rfl rfl (cnv_i_u64 (n := rp0.Size) Try.underlying3 Try.underlying22)) ?_
        refine Tops_step rfl (OpT_move rfl rfl rfl rfl) ?_
        refine Tops_step rfl (OpT_cnv rfl rfl rfl rfl (cnv_i_u64 (n := ip2) Try.underlying3 Try.underlying22)) ?_
        refine Tops_step rfl (OpT_assign rfl rfl rfl rfl) ?_
        refine Tops_step rfl (OpT_assign rfl rfl rfl rfl) ?_
        refine Tops_nil (Tk_wkS (fr' := [(1, some (vI what)), (3, some (.pointer (some ⟨b1, 0, none⟩))), (10, some (vU64 (u64 rp0.Size))), (11, some (vU64 (u64 ip2)))]) (own' := [some (cellsR b1 27 [vB rp0.Packed, vI rp0.Size, vU64 rp0.Desc, vU64 rp0.Driver, vU64 rp0.Device])]) (shr' := []) [1, 3, 10, 11] [0] [] rfl rfl rfl rfl ?_)
        refine Tk_seq (Tk_seq (Tk_region (Tops_step rfl (OpT_move rfl rfl rfl rfl) ?_)))
        refine Tops_step rfl (OpT_bin rfl rfl rfl rfl rfl (bin_eql_i (a := what) (b := (1 : Int)))) ?_
        refine Tops_nil (Tk_wkS (fr' := [(1, some (vI what)), (3, some (.pointer (some ⟨b1, 0, none⟩))), (10, some (vU64 (u64 rp0.Size))), (11, some (vU64 (u64 ip2))), (49, some (vB (what == (1 : Int))))]) (own' := [some (cellsR b1 27 [vB rp0.Packed, vI rp0.Size, vU64 rp0.Desc, vU64 rp0.Driver, vU64 rp0.Device])]) (shr' := []) [1, 3, 10, 11, 49] [0] [] rfl rfl rfl rfl ?_)
        refine Tk_condF (congrArg (fun b => some (Value.bool b)) hg1) ?_
        refine Tk_skip (Tk_seq (Tk_seq (Tk_region (Tops_step rfl (OpT_fieldC rfl rfl rfl rfl fldF27x0) ?_))))
        refine Tops_step rfl (OpT_loadC rfl rfl rfl rfl tyF4 (i := 0) rfl rfl) ?_
        refine Tops_nil (Tk_wkS (fr' := [(1, some (vI what)), (3, some (.pointer (some ⟨b1, 0, none⟩))), (10, some (vU64 (u64 rp0.Size))), (11, some (vU64 (u64 ip2))), (56, some (vB rp0.Packed))]) (own' := [some (cellsR b1 27 [vB rp0.Packed, vI rp0.Size, vU64 rp0.Desc, vU64 rp0.Driver, vU64 rp0.Device])]) (shr' := []) [1, 3, 10, 11, 56] [0] [] rfl rfl rfl rfl ?_)
        rcases Bool.eq_false_or_eq_true (rp0.Packed) with hg19 | hg19
        ·replace h := br_t hg19 h
         refine Tk_condT (congrArg (fun b => some (Value.bool b)) hg19) ?_
         refine Tk_seq (Tk_seq (Tk_region (Tops_step rfl (OpT_move rfl rfl rfl rfl) ?_)))
         refine Tops_nil (Tk_wkS (fr' := [(3, some (.pointer (some ⟨b1, 0, none⟩))), (57, some (vI what))]) (own' := [some (cellsR b1 27 [vB rp0.Packed, vI rp0.Size, vU64 rp0.Desc, vU64 rp0.Driver, vU64 rp0.Device])]) (shr' := []) [3, 57] [0] [] rfl rfl rfl rfl ?_)
         refine Tk_block (Tk_seq (Tk_region (Tops_step rfl (OpT_bin rfl rfl rfl rfl rfl (bin_eql_i (a := what) (b := (10 : Int)))) ?_)))
         refine Tops_step rfl (OpT_assign rfl rfl rfl rfl) ?_
         refine Tops_nil (Tk_wkS (fr' := [(3, some (.pointer (some ⟨b1, 0, none⟩))), (57, some (vI what)), (58, some (vB (what == (10 : Int))))]) (own' := [some (cellsR b1 27 [vB rp0.Packed, vI rp0.Size, vU64 rp0.Desc, vU64 rp0.Driver, vU64 rp0.Device])]) (shr' := []) [3, 57, 58] [0] [] rfl rfl rfl rfl ?_)
         rcases Bool.eq_false_or_eq_true (what == (10 : Int)) with hg20 | hg20
         ·replace h := br_t hg20 h
          refine Tk_condT (congrArg (fun b => some (Value.bool b)) hg20) ?_
          refine Tk_seq (Tk_region (Tops_step rfl (OpT_fieldC rfl rfl rfl rfl fldF27x3) ?_))
          refine Tops_step rfl (OpT_loadC rfl rfl rfl rfl tyF22 (i := 0) rfl rfl) ?_
          refine Tops_step rfl (OpT_assign rfl rfl rfl rfl) ?_
          refine Tops_step rfl (OpT_assign rfl rfl rfl rfl) ?_
          refine Tops_step rfl (OpT_assign rfl rfl rfl rfl) ?_
          refine Tops_nil (Tk_wkS (fr' := [(6, some (vU64 rp0.Driver)), (7, some (vI (4 : Int))), (8, some (vI (0 : Int)))]) (own' := []) (shr' := []) [6, 7, 8] [] [] rfl rfl rfl rfl ?_)
          obtain rfl := Option.some.inj h
          exact Tk_retV rfl rfl (resA (vs := [vU64 rp0.Driver, vI (4 : Int), vI (0 : Int)]) rfl ⟨rfl, rfl, rfl, trivial⟩) [] [] rfl rfl rfl ⟨rfl, rfl, rfl⟩
         ·replace h := br_f hg20 h
          refine Tk_condF (congrArg (fun b => some (Value.bool b)) hg20) ?_
          refine Tk_seq (Tk_region (Tops_step rfl (OpT_bin rfl rfl rfl rfl rfl (bin_eql_i (a := what) (b := (11 : Int)))) ?_))
          refine Tops_step rfl (OpT_assign rfl rfl rfl rfl) ?_
          refine Tops_nil (Tk_wkS (fr' := [(3, some (.pointer (some ⟨b1, 0, none⟩))), (62, some (vB (what == (11 : Int))))]) (own' := [some (cellsR b1 27 [vB rp0.Packed, vI rp0.Size, vU64 rp0.Desc, vU64 rp0.Driver, vU64 rp0.Device])]) (shr' := []) [3, 62] [0] [] rfl rfl rfl rfl ?_)
          rcases Bool.eq_false_or_eq_true (what == (11 : Int)) with hg21 | hg21
          ·replace h := br_t hg21 h
           refine Tk_condT (congrArg (fun b => some (Value.bool b)) hg21) ?_
           refine Tk_seq (Tk_region (Tops_step rfl (OpT_fieldC rfl rfl rfl rfl fldF27x4) ?_))
           refine Tops_step rfl (OpT_loadC rfl rfl rfl rfl tyF22 (i := 0) rfl rfl) ?_
           refine Tops_step rfl (OpT_assign rfl rfl rfl rfl) ?_
           refine Tops_step rfl (OpT_assign rfl rfl rfl rfl) ?_
           refine Tops_step rfl (OpT_assign rfl rfl rfl rfl) ?_
           refine Tops_nil (Tk_wkS (fr' := [(6, some (vU64 rp0.Device)), (7, some (vI (4 : Int))), (8, some (vI (0 : Int)))]) (own' := []) (shr' := []) [6, 7, 8] [] [] rfl rfl rfl rfl ?_)
           obtain rfl := Option.some.inj h
           exact Tk_retV rfl rfl (resA (vs := [vU64 rp0.Device, vI (4 : Int), vI (0 : Int)]) rfl ⟨rfl, rfl, rfl, trivial⟩) [] [] rfl rfl rfl ⟨rfl, rfl, rfl⟩
          ·replace h := br_f hg21 h
           refine Tk_condF (congrArg (fun b => some (Value.bool b)) hg21) ?_
           refine Tk_skip (Tk_blk (Tk_seq (Tk_region (Tops_step rfl (OpT_assign rfl rfl rfl rfl) ?_))))
           refine Tops_step rfl (OpT_assign rfl rfl rfl rfl) ?_
           refine Tops_step rfl (OpT_assign rfl rfl rfl rfl) ?_
           refine Tops_nil (Tk_wkS (fr' := [(6, some (vU64 (0 : UInt64))), (7, some (vI (0 : Int))), (8, some (vI (2 : Int)))]) (own' := []) (shr' := []) [6, 7, 8] [] [] rfl rfl rfl rfl ?_)
           obtain rfl := Option.some.inj h
           exact Tk_retV rfl rfl (resA (vs := [vU64 (0 : UInt64), vI (0 : Int), vI (2 : Int)]) rfl ⟨rfl, rfl, rfl, trivial⟩) [] [] rfl rfl rfl ⟨rfl, rfl, rfl⟩
        ·replace h := br_f hg19 h
         refine Tk_condF (congrArg (fun b => some (Value.bool b)) hg19) ?_
         refine Tk_skip (Tk_seq (Tk_seq (Tk_region (Tops_step rfl (OpT_move rfl rfl rfl rfl) ?_))))
         refine Tops_nil (Tk_wkS (fr' := [(3, some (.pointer (some ⟨b1, 0, none⟩))), (10, some (vU64 (u64 rp0.Size))), (11, some (vU64 (u64 ip2))), (66, some (vI what))]) (own' := [some (cellsR b1 27 [vB rp0.Packed, vI rp0.Size, vU64 rp0.Desc, vU64 rp0.Driver, vU64 rp0.Device])]) (shr' := []) [3, 10, 11, 66] [0] [] rfl rfl rfl rfl ?_)
         refine Tk_block (Tk_seq (Tk_region (Tops_step rfl (OpT_bin rfl rfl rfl rfl rfl (bin_eql_i (a := what) (b := (2 : Int)))) ?_)))
         refine Tops_step rfl (OpT_assign rfl rfl rfl rfl) ?_
         refine Tops_nil (Tk_wkS (fr' := [(3, some (.pointer (some ⟨b1, 0, none⟩))), (10, some (vU64 (u64 rp0.Size))), (11, some (vU64 (u64 ip2))), (66, some (vI what)), (67, some (vB (what == (2 : Int))))]) (own' := [some (cellsR b1 27 [vB rp0.Packed, vI rp0.Size, vU64 rp0.Desc, vU64 rp0.Driver, vU64 rp0.Device])]) (shr' := []) [3, 10, 11, 66, 67] [0] [] rfl rfl rfl rfl ?_)
         rcases Bool.eq_false_or_eq_true (what == (2 : Int)) with hg22 | hg22
         ·replace h := br_t hg22 h
          refine Tk_condT (congrArg (fun b => some (Value.bool b)) hg22) ?_
          refine Tk_seq (Tk_region (Tops_step rfl (OpT_fieldC rfl rfl rfl rfl fldF27x3) ?_))
          refine Tops_step rfl (OpT_loadC rfl rfl rfl rfl tyF22 (i := 0) rfl rfl) ?_
          refine Tops_step rfl (OpT_assign rfl rfl rfl rfl) ?_
          refine Tops_step rfl (OpT_assign rfl rfl rfl rfl) ?_
          refine Tops_step rfl (OpT_assign rfl rfl rfl rfl) ?_
          refine Tops_nil (Tk_wkS (fr' := [(6, some (vU64 rp0.Driver)), (7, some (vI (2 : Int))), (8, some (vI (0 : Int)))]) (own' := []) (shr' := []) [6, 7, 8] [] [] rfl rfl rfl rfl ?_)
          obtain rfl := Option.some.inj h
          exact Tk_retV rfl rfl (resA (vs := [vU64 rp0.Driver, vI (2 : Int), vI (0 : Int)]) rfl ⟨rfl, rfl, rfl, trivial⟩) [] [] rfl rfl rfl ⟨rfl, rfl, rfl⟩
         ·replace h := br_f hg22 h
          refine Tk_condF (congrArg (fun b => some (Value.bool b)) hg22) ?_
          refine Tk_seq (Tk_region (Tops_step rfl (OpT_bin rfl rfl rfl rfl rfl (bin_eql_i (a := what) (b := (3 : Int)))) ?_))
          refine Tops_step rfl (OpT_assign rfl rfl rfl rfl) ?_
          refine Tops_nil (Tk_wkS (fr' := [(3, some (.pointer (some ⟨b1, 0, none⟩))), (10, some (vU64 (u64 rp0.Size))), (11, some (vU64 (u64 ip2))), (66, some (vI what)), (71, some (vB (what == (3 : Int))))]) (own' := [some (cellsR b1 27 [vB rp0.Packed, vI rp0.Size, vU64 rp0.Desc, vU64 rp0.Driver, vU64 rp0.Device])]) (shr' := []) [3, 10, 11, 66, 71] [0] [] rfl rfl rfl rfl ?_)
          rcases Bool.eq_false_or_eq_true (what == (3 : Int)) with hg23 | hg23
          ·replace h := br_t hg23 h
           refine Tk_condT (congrArg (fun b => some (Value.bool b)) hg23) ?_
           refine Tk_seq (Tk_region (Tops_step rfl (OpT_fieldC rfl rfl rfl rfl fldF27x3) ?_))
           refine Tops_step rfl (OpT_loadC rfl rfl rfl rfl tyF22 (i := 0) rfl rfl) ?_
           refine Tops_step rfl (OpT_bin rfl rfl rfl rfl rfl (bin_add_u64 (a := rp0.Driver) (b := (2 : UInt64)))) ?_
           refine Tops_step rfl (OpT_assign rfl rfl rfl rfl) ?_
           refine Tops_step rfl (OpT_assign rfl rfl rfl rfl) ?_
           refine Tops_step rfl (OpT_assign rfl rfl rfl rfl) ?_
           refine Tops_nil (Tk_wkS (fr' := [(6, some (vU64 (rp0.Driver + (2 : UInt64)))), (7, some (vI (2 : Int))), (8, some (vI (0 : Int)))]) (own' := []) (shr' := []) [6, 7, 8] [] [] rfl rfl rfl rfl ?_)
           obtain rfl := Option.some.inj h
           exact Tk_retV rfl rfl (resA (vs := [vU64 (rp0.Driver + (2 : UInt64)), vI (2 : Int), vI (0 : Int)]) rfl ⟨rfl, rfl, rfl, trivial⟩) [] [] rfl rfl rfl ⟨rfl, rfl, rfl⟩
          ·replace h := br_f hg23 h
           refine Tk_condF (congrArg (fun b => some (Value.bool b)) hg23) ?_
           refine Tk_seq (Tk_region (Tops_step rfl (OpT_bin rfl rfl rfl rfl rfl (bin_eql_i (a := what) (b := (4 : Int)))) ?_))
           refine Tops_step rfl (OpT_assign rfl rfl rfl rfl) ?_
           refine Tops_nil (Tk_wkS (fr' := [(3, some (.pointer (some ⟨b1, 0, none⟩))), (10, some (vU64 (u64 rp0.Size))), (11, some (vU64 (u64 ip2))), (66, some (vI what)), (76, some (vB (what == (4 : Int))))]) (own' := [some (cellsR b1 27 [vB rp0.Packed, vI rp0.Size, vU64 rp0.Desc, vU64 rp0.Driver, vU64 rp0.Device])]) (shr' := []) [3, 10, 11, 66, 76] [0] [] rfl rfl rfl rfl ?_)
           refine Tk_condF (congrArg (fun b => some (Value.bool b)) hg5) ?_
           refine Tk_seq (Tk_region (Tops_step rfl (OpT_bin rfl rfl rfl rfl rfl (bin_eql_i (a := what) (b := (5 : Int)))) ?_))
           refine Tops_step rfl (OpT_assign rfl rfl rfl rfl) ?_
           refine Tops_nil (Tk_wkS (fr' := [(3, some (.pointer (some ⟨b1, 0, none⟩))), (10, some (vU64 (u64 rp0.Size))), (11, some (vU64 (u64 ip2))), (66, some (vI what)), (84, some (vB (what == (5 : Int))))]) (own' := [some (cellsR b1 27 [vB rp0.Packed, vI rp0.Size, vU64 rp0.Desc, vU64 rp0.Driver, vU64 rp0.Device])]) (shr' := []) [3, 10, 11, 66, 84] [0] [] rfl rfl rfl rfl ?_)
           rcases Bool.eq_false_or_eq_true (what == (5 : Int)) with hg24 | hg24
           ·replace h := br_t hg24 h
            refine Tk_condT (congrArg (fun b => some (Value.bool b)) hg24) ?_
            refine Tk_seq (Tk_region (Tops_step rfl (OpT_fieldC rfl rfl rfl rfl fldF27x3) ?_))
            refine Tops_step rfl (OpT_loadC rfl rfl rfl rfl tyF22 (i := 0) rfl rfl) ?_
            refine Tops_step rfl (OpT_bin rfl rfl rfl rfl rfl (bin_add_u64 (a := rp0.Driver) (b := (4 : UInt64)))) ?_
            refine Tops_step rfl (OpT_move rfl rfl rfl rfl) ?_
            refine Tops_step rfl (OpT_bin rfl rfl rfl rfl rfl (bin_mul_u64 (a := (2 : UInt64)) (b := u64 rp0.Size))) ?_
            refine Tops_step rfl (OpT_bin rfl rfl rfl rfl rfl (bin_add_u64 (a := rp0.Driver + (4 : UInt64)) (b := (2 : UInt64) * (u64 rp0.Size)))) ?_
            refine Tops_step rfl (OpT_assign rfl rfl rfl rfl) ?_
            refine Tops_step rfl (OpT_assign rfl rfl rfl rfl) ?_
            refine Tops_step rfl (OpT_assign rfl rfl rfl rfl) ?_
            refine Tops_nil (Tk_wkS (fr' := [(6, some (vU64 ((rp0.Driver + (4 : UInt64)) + ((2 : UInt64) * (u64 rp0.Size))))), (7, some (vI (2 : Int))), (8, some (vI (0 : Int)))]) (own' := []) (shr' := []) [6, 7, 8] [] [] rfl rfl rfl rfl ?_)
            obtain rfl := Option.some.inj h
            exact Tk_retV rfl rfl (resA (vs := [vU64 ((rp0.Driver + (4 : UInt64)) + ((2 : UInt64) * (u64 rp0.Size))), vI (2 : Int), vI (0 : Int)]) rfl ⟨rfl, rfl, rfl, trivial⟩) [] [] rfl rfl rfl ⟨rfl, rfl, rfl⟩
           ·replace h := br_f hg24 h
            refine Tk_condF (congrArg (fun b => some (Value.bool b)) hg24) ?_
            refine Tk_seq (Tk_region (Tops_step rfl (OpT_bin rfl rfl rfl rfl rfl (bin_eql_i (a := what) (b := (6 : Int)))) ?_))
            refine Tops_step rfl (OpT_assign rfl rfl rfl rfl) ?_
            refine Tops_nil (Tk_wkS (fr' := [(3, some (.pointer (some ⟨b1, 0, none⟩))), (10, some (vU64 (u64 rp0.Size))), (11, some (vU64 (u64 ip2))), (66, some (vI what)), (92, some (vB (what == (6 : Int))))]) (own' := [some (cellsR b1 27 [vB rp0.Packed, vI rp0.Size, vU64 rp0.Desc, vU64 rp0.Driver, vU64 rp0.Device])]) (shr' := []) [3, 10, 11, 66, 92] [0] [] rfl rfl rfl rfl ?_)
            rcases Bool.eq_false_or_eq_true (what == (6 : Int)) with hg25 | hg25
            ·replace h := br_t hg25 h
             refine Tk_condT (congrArg (fun b => some (Value.bool b)) hg25) ?_
             refine Tk_seq (Tk_region (Tops_step rfl (OpT_fieldC rfl rfl rfl rfl fldF27x4) ?_))
             refine Tops_step rfl (OpT_loadC rfl rfl rfl rfl tyF22 (i := 0) rfl rfl) ?_
             refine Tops_step rfl (OpT_assign rfl rfl rfl rfl) ?_
             refine Tops_step rfl (OpT_assign rfl rfl rfl rfl) ?_
             refine Tops_step rfl (OpT_assign rfl rfl rfl rfl) ?_
             refine Tops_nil (Tk_wkS (fr' := [(6, some (vU64 rp0.Device)), (7, some (vI (2 : Int))), (8, some (vI (0 : Int)))]) (own' := []) (shr' := []) [6, 7, 8] [] [] rfl rfl rfl rfl ?_)
             obtain rfl := Option.some.inj h
             exact Tk_retV rfl rfl (resA (vs := [vU64 rp0.Device, vI (2 : Int), vI (0 : Int)]) rfl ⟨rfl, rfl, rfl, trivial⟩) [] [] rfl rfl rfl ⟨rfl, rfl, rfl⟩
            ·replace h := br_f hg25 h
             refine Tk_condF (congrArg (fun b => some (Value.bool b)) hg25) ?_
             refine Tk_seq (Tk_region (Tops_step rfl (OpT_bin rfl rfl rfl rfl rfl (bin_eql_i (a := what) (b := (7 : Int)))) ?_))
             refine Tops_step rfl (OpT_assign rfl rfl rfl rfl) ?_
             refine Tops_nil (Tk_wkS (fr' := [(3, some (.pointer (some ⟨b1, 0, none⟩))), (10, some (vU64 (u64 rp0.Size))), (11, some (vU64 (u64 ip2))), (66, some (vI what)), (96, some (vB (what == (7 : Int))))]) (own' := [some (cellsR b1 27 [vB rp0.Packed, vI rp0.Size, vU64 rp0.Desc, vU64 rp0.Driver, vU64 rp0.Device])]) (shr' := []) [3, 10, 11, 66, 96] [0] [] rfl rfl rfl rfl ?_)
             rcases Bool.eq_false_or_eq_true (what == (7 : Int)) with hg26 | hg26
             ·replace h := br_t hg26 h
              refine Tk_condT (congrArg (fun b => some (Value.bool b)) hg26) ?_
              refine Tk_seq (Tk_region (Tops_step rfl (OpT_fieldC rfl rfl rfl rfl fldF27x4) ?_))
              refine Tops_step rfl (OpT_loadC rfl rfl rfl rfl tyF22 (i := 0) rfl rfl) ?_
              refine Tops_step rfl (OpT_bin rfl rfl rfl rfl rfl (bin_add_u64 (a := rp0.Device) (b := (2 : UInt64)))) ?_
              refine Tops_step rfl (OpT_assign rfl rfl rfl rfl) ?_
              refine Tops_step rfl (OpT_assign rfl rfl rfl rfl) ?_
              refine Tops_step rfl (OpT_assign rfl rfl rfl rfl) ?_
              refine Tops_nil (Tk_wkS (fr' := [(6, some (vU64 (rp0.Device + (2 : UInt64)))), (7, some (vI (2 : Int))), (8, some (vI (0 : Int)))]) (own' := []) (shr' := []) [6, 7, 8] [] [] rfl rfl rfl rfl ?_)
              obtain rfl := Option.some.inj h
              exact Tk_retV rfl rfl (resA (vs := [vU64 (rp0.Device + (2 : UInt64)), vI (2 : Int), vI (0 : Int)]) rfl ⟨rfl, rfl, rfl, trivial⟩) [] [] rfl rfl rfl ⟨rfl, rfl, rfl⟩
             ·replace h := br_f hg26 h
              refine Tk_condF (congrArg (fun b => some (Value.bool b)) hg26) ?_
              refine Tk_seq (Tk_region (Tops_step rfl (OpT_bin rfl rfl rfl rfl rfl (bin_eql_i (a := what) (b := (8 : Int)))) ?_))
              refine Tops_step rfl (OpT_assign rfl rfl rfl rfl) ?_
              refine Tops_nil (Tk_wkS (fr' := [(3, some (.pointer (some ⟨b1, 0, none⟩))), (10, some (vU64 (u64 rp0.Size))), (11, some (vU64 (u64 ip2))), (66, some (vI what)), (101, some (vB (what == (8 : Int))))]) (own' := [some (cellsR b1 27 [vB rp0.Packed, vI rp0.Size, vU64 rp0.Desc, vU64 rp0.Driver, vU64 rp0.Device])]) (shr' := []) [3, 10, 11, 66, 101] [0] [] rfl rfl rfl rfl ?_)
              rcases Bool.eq_false_or_eq_true (what == (8 : Int)) with hg27 | hg27
              ·replace h := br_t hg27 h
               refine Tk_condT (congrArg (fun b => some (Value.bool b)) hg27) ?_
               refine Tk_seq (Tk_region (Tops_step rfl (OpT_fieldC rfl rfl rfl rfl fldF27x4) ?_))
               refine Tops_step rfl (OpT_loadC rfl rfl rfl rfl tyF22 (i := 0) rfl rfl) ?_
               refine Tops_step rfl (OpT_bin rfl rfl rfl rfl rfl (bin_add_u64 (a := rp0.Device) (b := (4 : UInt64)))) ?_
               refine Tops_step rfl (OpT_move rfl rfl rfl rfl) ?_
               refine Tops_step rfl (OpT_bin rfl rfl rfl rfl rfl (bin_mul_u64 (a := (8 : UInt64)) (b := u64 ip2))) ?_
               refine Tops_step rfl (OpT_bin rfl rfl rfl rfl rfl (bin_add_u64 (a := rp0.Device + (4 : UInt64)) (b := (8 : UInt64) * (u64 ip2)))) ?_
               refine Tops_step rfl (OpT_assign rfl rfl rfl rfl) ?_
               refine Tops_step rfl (OpT_assign rfl rfl rfl rfl) ?_
               refine Tops_step rfl (OpT_assign rfl rfl rfl rfl) ?_
               refine Tops_nil (Tk_wkS (fr' := [(6, some (vU64 ((rp0.Device + (4 : UInt64)) + ((8 : UInt64) * (u64 ip2))))), (7, some (vI (8 : Int))), (8, some (vI (0 : Int)))]) (own' := []) (shr' := []) [6, 7, 8] [] [] rfl rfl rfl rfl ?_)
               obtain rfl := Option.some.inj h
               exact Tk_retV rfl rfl (resA (vs := [vU64 ((rp0.Device + (4 : UInt64)) + ((8 : UInt64) * (u64 ip2))), vI (8 : Int), vI (0 : Int)]) rfl ⟨rfl, rfl, rfl, trivial⟩) [] [] rfl rfl rfl ⟨rfl, rfl, rfl⟩
              ·replace h := br_f hg27 h
               refine Tk_condF (congrArg (fun b => some (Value.bool b)) hg27) ?_
               refine Tk_seq (Tk_region (Tops_step rfl (OpT_bin rfl rfl rfl rfl rfl (bin_eql_i (a := what) (b := (9 : Int)))) ?_))
               refine Tops_step rfl (OpT_assign rfl rfl rfl rfl) ?_
               refine Tops_nil (Tk_wkS (fr' := [(3, some (.pointer (some ⟨b1, 0, none⟩))), (10, some (vU64 (u64 rp0.Size))), (109, some (vB (what == (9 : Int))))]) (own' := [some (cellsR b1 27 [vB rp0.Packed, vI rp0.Size, vU64 rp0.Desc, vU64 rp0.Driver, vU64 rp0.Device])]) (shr' := []) [3, 10, 109] [0] [] rfl rfl rfl rfl ?_)
               rcases Bool.eq_false_or_eq_true (what == (9 : Int)) with hg28 | hg28
               ·replace h := br_t hg28 h
                refine Tk_condT (congrArg (fun b => some (Value.bool b)) hg28) ?_
                refine Tk_seq (Tk_region (Tops_step rfl (OpT_fieldC rfl rfl rfl rfl fldF27x4) ?_))
                refine Tops_step rfl (OpT_loadC rfl rfl rfl rfl tyF22 (i := 0) rfl rfl) ?_
                refine Tops_step rfl (OpT_bin rfl rfl rfl rfl rfl (bin_add_u64 (a := rp0.Device) (b := (4 : UInt64)))) ?_
                refine Tops_step rfl (OpT_move rfl rfl rfl rfl) ?_
                refine Tops_step rfl (OpT_bin rfl rfl rfl rfl rfl (bin_mul_u64 (a := (8 : UInt64)) (b := u64 rp0.Size))) ?_
                refine Tops_step rfl (OpT_bin rfl rfl rfl rfl rfl (bin_add_u64 (a := rp0.Device + (4 : UInt64)) (b := (8 : UInt64) * (u64 rp0.Size)))) ?_
                refine Tops_step rfl (OpT_assign rfl rfl rfl rfl) ?_
                refine Tops_step rfl (OpT_assign rfl rfl rfl rfl) ?_
                refine Tops_step rfl (OpT_assign rfl rfl rfl rfl) ?_
                refine Tops_nil (Tk_wkS (fr' := [(6, some (vU64 ((rp0.Device + (4 : UInt64)) + ((8 : UInt64) * (u64 rp0.Size))))), (7, some (vI (2 : Int))), (8, some (vI (0 : Int)))]) (own' := []) (shr' := []) [6, 7, 8] [] [] rfl rfl rfl rfl ?_)
                obtain rfl := Option.some.inj h
                exact Tk_retV rfl rfl (resA (vs := [vU64 ((rp0.Device + (4 : UInt64)) + ((8 : UInt64) * (u64 rp0.Size))), vI (2 : Int), vI (0 : Int)]) rfl ⟨rfl, rfl, rfl, trivial⟩) [] [] rfl rfl rfl ⟨rfl, rfl, rfl⟩
               ·replace h := br_f hg28 h
                refine Tk_condF (congrArg (fun b => some (Value.bool b)) hg28) ?_
                refine Tk_skip (Tk_blk (Tk_seq (Tk_region (Tops_step rfl (OpT_assign rfl rfl rfl rfl) ?_))))
                refine Tops_step rfl (OpT_assign rfl rfl rfl rfl) ?_
                refine Tops_step rfl (OpT_assign rfl rfl rfl rfl) ?_
                refine Tops_nil (Tk_wkS (fr' := [(6, some (vU64 (0 : UInt64))), (7, some (vI (0 : Int))), (8, some (vI (2 : Int)))]) (own' := []) (shr' := []) [6, 7, 8] [] [] rfl rfl rfl rfl ?_)
                obtain rfl := Option.some.inj h
                exact Tk_retV rfl rfl (resA (vs := [vU64 (0 : UInt64), vI (0 : Int), vI (2 : Int)]) rfl ⟨rfl, rfl, rfl, trivial⟩) [] [] rfl rfl rfl ⟨rfl, rfl, rfl⟩
      ·replace h := br_f hg17 h
       refine Tops_no rfl rfl (congrArg (fun b => some (Value.bool b)) hg17) rfl rfl ?_
       refine Tops_no rfl rfl (congrArg (fun b => some (Value.bool b)) hg17) rfl rfl ?_
       refine Tops_yes rfl rfl (congrArg (fun b => some (Value.bool b)) hg16) (OpT_pickF rfl rfl rfl (congrArg (fun b => some (Value.bool b)) hg17) rfl) ?_
       rintro _ rfl
       refine Tops_step rfl (OpT_pickF rfl rfl rfl (congrArg (fun b => some (Value.bool b)) hg16) rfl) ?_
       refine Tops_nil (Tk_wkS (fr' := [(1, some (vI what)), (2, some (vI ip2)), (3, some (.pointer (some ⟨b1, 0, none⟩))), (42, some (vB false))]) (own' := [some (cellsR b1 27 [vB rp0.Packed, vI rp0.Size, vU64 rp0.Desc, vU64 rp0.Driver, vU64 rp0.Device])]) (shr' := []) [1, 2, 3, 42] [0] [] rfl rfl rfl rfl ?_)
       refine Tk_condF rfl ?_
       refine Tk_skip (Tk_seq (Tk_region (Tops_step rfl (OpT_fieldC rfl rfl rfl rfl fldF27x1) ?_)))
       refine Tops_step rfl (OpT_loadC rfl rfl rfl rfl tyF3 (i := 0) rfl rfl) ?_
       refine Tops_step rfl (OpT_cnv rfl rfl rfl rfl (cnv_i_u64 (n := rp0.Size) Try.underlying3 Try.underlying22)) ?_
       refine Tops_step rfl (OpT_move rfl rfl rfl rfl) ?_
       refine Tops_step rfl (OpT_cnv rfl rfl rfl rfl (cnv_i_u64 (n := ip2) Try.underlying3 Try.underlying22)) ?_
       refine Tops_step rfl (OpT_assign rfl rfl rfl rfl) ?_
       refine Tops_step rfl (OpT_assign rfl rfl rfl rfl) ?_
       refine Tops_nil (Tk_wkS (fr' := [(1, some (vI what)), (3, some (.pointer (some ⟨b1, 0, none⟩))), (10, some (vU64 (u64 rp0.Size))), (11, some (vU64 (u64 ip2)))]) (own' := [some (cellsR b1 27 [vB rp0.Packed, vI rp0.Size, vU64 rp0.Desc, vU64 rp0.Driver, vU64 rp0.Device])]) (shr' := []) [1, 3, 10, 11] [0] [] rfl rfl rfl rfl ?_)
       refine Tk_seq (Tk_seq (Tk_region (Tops_step rfl (OpT_move rfl rfl rfl rfl) ?_)))
       refine Tops_step rfl (OpT_bin rfl rfl rfl rfl rfl (bin_eql_i (a := what) (b := (1 : Int)))) ?_
       refine Tops_nil (Tk_wkS (fr' := [(1, some (vI what)), (3, some (.pointer (some ⟨b1, 0, none⟩))), (10, some (vU64 (u64 rp0.Size))), (11, some (vU64 (u64 ip2))), (49, some (vB (what == (1 : Int))))]) (own' := [some (cellsR b1 27 [vB rp0.Packed, vI rp0.Size, vU64 rp0.Desc, vU64 rp0.Driver, vU64 rp0.Device])]) (shr' := []) [1, 3, 10, 11, 49] [0] [] rfl rfl rfl rfl ?_)
       refine Tk_condF (congrArg (fun b => some (Value.bool b)) hg1) ?_
       refine Tk_skip (Tk_seq (Tk_seq (Tk_region (Tops_step rfl (OpT_fieldC rfl rfl rfl rfl fldF27x0) ?_))))
       refine Tops_step rfl (OpT_loadC rfl rfl rfl rfl tyF4 (i := 0) rfl rfl) ?_
       refine Tops_nil (Tk_wkS (fr' := [(1, some (vI what)), (3, some (.pointer (some ⟨b1, 0, none⟩))), (10, some (vU64 (u64 rp0.Size))), (11, some (vU64 (u64 ip2))), (56, some (vB rp0.Packed))]) (own' := [some (cellsR b1 27 [vB rp0.Packed, vI rp0.Size, vU64 rp0.Desc, vU64 rp0.Driver, vU64 rp0.Device])]) (shr' := []) [1, 3, 10, 11, 56] [0] [] rfl rfl rfl rfl ?_)
       rcases Bool.eq_false_or_eq_true (rp0.Packed) with hg29 | hg29
       ·replace h := br_t hg29 h
        refine Tk_condT (congrArg (fun b => some (Value.bool b)) hg29) ?_
        refine Tk_seq (Tk_seq (Tk_region (Tops_step rfl (OpT_move rfl rfl rfl rfl) ?_)))
        refine Tops_nil (Tk_wkS (fr' := [(3, some (.pointer (some ⟨b1, 0, none⟩))), (57, some (vI what))]) (own' := [some (cellsR b1 27 [vB rp0.Packed, vI rp0.Size, vU64 rp0.Desc, vU64 rp0.Driver, vU64 rp0.Device])]) (shr' := []) [3, 57] [0] [] rfl rfl rfl rfl ?_)
        refine Tk_block (Tk_seq (Tk_region (Tops_step rfl (OpT_bin rfl rfl rfl rfl rfl (bin_eql_i (a := what) (b := (10 : Int)))) ?_)))
        refine Tops_step rfl (OpT_assign rfl rfl rfl rfl) ?_
        refine Tops_nil (Tk_wkS (fr' := [(3, some (.pointer (some ⟨b1, 0, none⟩))), (57, some (vI what)), (58, some (vB (what == (10 : Int))))]) (own' := [some (cellsR b1 27 [vB rp0.Packed, vI rp0.Size, vU64 rp0.Desc, vU64 rp0.Driver, vU64 rp0.Device])]) (shr' := []) [3, 57, 58] [0] [] rfl rfl rfl rfl ?_)
        rcases Bool.eq_false_or_eq_true (what == (10 : Int)) with hg30 | hg30
        ·replace h := br_t hg30 h
         refine Tk_condT (congrArg (fun b => some (Value.bool b)) hg30) ?_
         refine Tk_seq (Tk_region (Tops_step rfl (OpT_fieldC rfl rfl rfl rfl fldF27x3) ?_))
         refine Tops_step rfl (OpT_loadC rfl rfl rfl rfl tyF22 (i := 0) rfl rfl) ?_
         refine Tops_step rfl (OpT_assign rfl rfl rfl rfl) ?_
         refine Tops_step rfl (OpT_assign rfl rfl rfl rfl) ?_
         refine Tops_step rfl (OpT_assign rfl rfl rfl rfl) ?_
         refine Tops_nil (Tk_wkS (fr' := [(6, some (vU64 rp0.Driver)), (7, some (vI (4 : Int))), (8, some (vI (0 : Int)))]) (own' := []) (shr' := []) [6, 7, 8] [] [] rfl rfl rfl rfl ?_)
         obtain rfl := Option.some.inj h
         exact Tk_retV rfl rfl (resA (vs := [vU64 rp0.Driver, vI (4 : Int), vI (0 : Int)]) rfl ⟨rfl, rfl, rfl, trivial⟩) [] [] rfl rfl rfl ⟨rfl, rfl, rfl⟩
        ·replace h := br_f hg30 h
         refine Tk_condF (congrArg (fun b => some (Value.bool b)) hg30) ?_
         refine Tk_seq (Tk_region (Tops_step rfl (OpT_bin rfl rfl rfl rfl rfl (bin_eql_i (a := what) (b := (11 : Int)))) ?_))
         refine Tops_step rfl (OpT_assign rfl rfl rfl rfl) ?_
         refine Tops_nil (Tk_wkS (fr' := [(3, some (.pointer (some ⟨b1, 0, none⟩))), (62, some (vB (what == (11 : Int))))]) (own' := [some (cellsR b1 27 [vB rp0.Packed, vI rp0.Size, vU64 rp0.Desc, vU64 rp0.Driver, vU64 rp0.Device])]) (shr' := []) [3, 62] [0] [] rfl rfl rfl rfl ?_)
         rcases Bool.eq_false_or_eq_true (what == (11 : Int)) with hg31 | hg31
         ·replace h := br_t hg31 h
          refine Tk_condT (congrArg (fun b => some (Value.bool b)) hg31) ?_
          refine Tk_seq (Tk_region (Tops_step rfl (OpT_fieldC rfl rfl rfl rfl fldF27x4) ?_))
          refine Tops_step rfl (OpT_loadC rfl rfl rfl rfl tyF22 (i := 0) rfl rfl) ?_
          refine Tops_step rfl (OpT_assign rfl rfl rfl rfl) ?_
          refine Tops_step rfl (OpT_assign rfl rfl rfl rfl) ?_
          refine Tops_step rfl (OpT_assign rfl rfl rfl rfl) ?_
          refine Tops_nil (Tk_wkS (fr' := [(6, some (vU64 rp0.Device)), (7, some (vI (4 : Int))), (8, some (vI (0 : Int)))]) (own' := []) (shr' := []) [6, 7, 8] [] [] rfl rfl rfl rfl ?_)
          obtain rfl := Option.some.inj h
          exact Tk_retV rfl rfl (resA (vs := [vU64 rp0.Device, vI (4 : Int), vI (0 : Int)]) rfl ⟨rfl, rfl, rfl, trivial⟩) [] [] rfl rfl rfl ⟨rfl, rfl, rfl⟩
         ·replace h := br_f hg31 h
          refine Tk_condF (congrArg (fun b => some (Value.bool b)) hg31) ?_
          refine Tk_skip (Tk_blk (Tk_seq (Tk_region (Tops_step rfl (OpT_assign rfl rfl rfl rfl) ?_))))
          refine Tops_step rfl (OpT_assign rfl rfl rfl rfl) ?_
          refine Tops_step rfl (OpT_assign rfl rfl rfl rfl) ?_
          refine Tops_nil (Tk_wkS (fr' := [(6, some (vU64 (0 : UInt64))), (7, some (vI (0 : Int))), (8, some (vI (2 : Int)))]) (own' := []) (shr' := []) [6, 7, 8] [] [] rfl rfl rfl rfl ?_)
          obtain rfl := Option.some.inj h
          exact Tk_retV rfl rfl (resA (vs := [vU64 (0 : UInt64), vI (0 : Int), vI (2 : Int)]) rfl ⟨rfl, rfl, rfl, trivial⟩) [] [] rfl rfl rfl ⟨rfl, rfl, rfl⟩
       ·replace h := br_f hg29 h
        refine Tk_condF (congrArg (fun b => some (Value.bool b)) hg29) ?_
        refine Tk_skip (Tk_seq (Tk_seq (Tk_region (Tops_step rfl (OpT_move rfl rfl rfl rfl) ?_))))
        refine Tops_nil (Tk_wkS (fr' := [(3, some (.pointer (some ⟨b1, 0, none⟩))), (10, some (vU64 (u64 rp0.Size))), (11, some (vU64 (u64 ip2))), (66, some (vI what))]) (own' := [some (cellsR b1 27 [vB rp0.Packed, vI rp0.Size, vU64 rp0.Desc, vU64 rp0.Driver, vU64 rp0.Device])]) (shr' := []) [3, 10, 11, 66] [0] [] rfl rfl rfl rfl ?_)
        refine Tk_block (Tk_seq (Tk_region (Tops_step rfl (OpT_bin rfl rfl rfl rfl rfl (bin_eql_i (a := what) (b := (2 : Int)))) ?_)))
        refine Tops_step rfl (OpT_assign rfl rfl rfl rfl) ?_
        refine Tops_nil (Tk_wkS (fr' := [(3, some (.pointer (some ⟨b1, 0, none⟩))), (10, some (vU64 (u64 rp0.Size))), (11, some (vU64 (u64 ip2))), (66, some (vI what)), (67, some (vB (what == (2 : Int))))]) (own' := [some (cellsR b1 27 [vB rp0.Packed, vI rp0.Size, vU64 rp0.Desc, vU64 rp0.Driver, vU64 rp0.Device])]) (shr' := []) [3, 10, 11, 66, 67] [0] [] rfl rfl rfl rfl ?_)
        rcases Bool.eq_false_or_eq_true (what == (2 : Int)) with hg32 | hg32
        ·replace h := br_t hg32 h
         refine Tk_condT (congrArg (fun b => some (Value.bool b)) hg32) ?_
         refine Tk_seq (Tk_region (Tops_step rfl (OpT_fieldC rfl rfl rfl rfl fldF27x3) ?_))
         refine Tops_step rfl (OpT_loadC rfl rfl rfl rfl tyF22 (i := 0) rfl rfl) ?_
         refine Tops_step rfl (OpT_assign rfl rfl rfl rfl) ?_
         refine Tops_step rfl (OpT_assign rfl rfl rfl rfl) ?_
         refine Tops_step rfl (OpT_assign rfl rfl rfl rfl) ?_
         refine Tops_nil (Tk_wkS (fr' := [(6, some (vU64 rp0.Driver)), (7, some (vI (2 : Int))), (8, some (vI (0 : Int)))]) (own' := []) (shr' := []) [6, 7, 8] [] [] rfl rfl rfl rfl ?_)
         obtain rfl := Option.some.inj h
         exact Tk_retV rfl rfl (resA (vs := [vU64 rp0.Driver, vI (2 : Int), vI (0 : Int)]) rfl ⟨rfl, rfl, rfl, trivial⟩) [] [] rfl rfl rfl ⟨rfl, rfl, rfl⟩
        ·replace h := br_f hg32 h
         refine Tk_condF (congrArg (fun b => some (Value.bool b)) hg32) ?_
         refine Tk_seq (Tk_region (Tops_step rfl (OpT_bin rfl rfl rfl rfl rfl (bin_eql_i (a := what) (b := (3 : Int)))) ?_))
         refine Tops_step rfl (OpT_assign rfl rfl rfl rfl) ?_
         refine Tops_nil (Tk_wkS (fr' := [(3, some (.pointer (some ⟨b1, 0, none⟩))), (10, some (vU64 (u64 rp0.Size))), (11, some (vU64 (u64 ip2))), (66, some (vI what)), (71, some (vB (what == (3 : Int))))]) (own' := [some (cellsR b1 27 [vB rp0.Packed, vI rp0.Size, vU64 rp0.Desc, vU64 rp0.Driver, vU64 rp0.Device])]) (shr' := []) [3, 10, 11, 66, 71] [0] [] rfl rfl rfl rfl ?_)
         rcases Bool.eq_false_or_eq_true (what == (3 : Int)) with hg33 | hg33
         ·replace h := br_t hg33 h
          refine Tk_condT (congrArg (fun b => some (Value.bool b)) hg33) ?_
          refine Tk_seq (Tk_region (Tops_step rfl (OpT_fieldC rfl rfl rfl rfl fldF27x3) ?_))
          refine Tops_step rfl (OpT_loadC rfl rfl rfl rfl tyF22 (i := 0) rfl rfl) ?_
          refine Tops_step rfl (OpT_bin rfl rfl rfl rfl rfl (bin_add_u64 (a := rp0.Driver) (b := (2 : UInt64)))) ?_
          refine Tops_step rfl (OpT_assign rfl rfl rfl rfl) ?_
          refine Tops_step rfl (OpT_assign rfl rfl rfl rfl) ?_
          refine Tops_step rfl (OpT_assign rfl rfl rfl rfl) ?_
          refine Tops_nil (Tk_wkS (fr' := [(6, some (vU64 (rp0.Driver + (2 : UInt64)))), (7, some (vI (2 : Int))), (8, some (vI (0 : Int)))]) (own' := []) (shr' := []) [6, 7, 8] [] [] rfl rfl rfl rfl ?_)
          obtain rfl := Option.some.inj h
          exact Tk_retV rfl rfl (resA (vs := [vU64 (rp0.Driver + (2 : UInt64)), vI (2 : Int), vI (0 : Int)]) rfl ⟨rfl, rfl, rfl, trivial⟩) [] [] rfl rfl rfl ⟨rfl, rfl, rfl⟩
         ·replace h := br_f hg33 h
          refine Tk_condF (congrArg (fun b => some (Value.bool b)) hg33) ?_
          refine Tk_seq (Tk_region (Tops_step rfl (OpT_bin rfl rfl rfl rfl rfl (bin_eql_i (a := what) (b := (4 : Int)))) ?_))
          refine Tops_step rfl (OpT_assign rfl rfl rfl rfl) ?_
          refine Tops_nil (Tk_wkS (fr' := [(3, some (.pointer (some ⟨b1, 0, none⟩))), (10, some (vU64 (u64 rp0.Size))), (11, some (vU64 (u64 ip2))), (66, some (vI what)), (76, some (vB (what == (4 : Int))))]) (own' := [some (cellsR b1 27 [vB rp0.Packed, vI rp0.Size, vU64 rp0.Desc, vU64 rp0.Driver, vU64 rp0.Device])]) (shr' := []) [3, 10, 11, 66, 76] [0] [] rfl rfl rfl rfl ?_)
          refine Tk_condF (congrArg (fun b => some (Value.bool b)) hg5) ?_
          refine Tk_seq (Tk_region (Tops_step rfl (OpT_bin rfl rfl rfl rfl rfl (bin_eql_i (a := what) (b := (5 : Int)))) ?_))
          refine Tops_step rfl (OpT_assign rfl rfl rfl rfl) ?_
          refine Tops_nil (Tk_wkS (fr' := [(3, some (.pointer (some ⟨b1, 0, none⟩))), (10, some (vU64 (u64 rp0.Size))), (11, some (vU64 (u64 ip2))), (66, some (vI what)), (84, some (vB (what == (5 : Int))))]) (own' := [some (cellsR b1 27 [vB rp0.Packed, vI rp0.Size, vU64 rp0.Desc, vU64 rp0.Driver, vU64 rp0.Device])]) (shr' := []) [3, 10, 11, 66, 84] [0] [] rfl rfl rfl rfl ?_)
          rcases Bool.eq_false_or_eq_true (what == (5 : Int)) with hg34 | hg34
          ·replace h := br_t hg34 h
           refine Tk_condT (congrArg (fun b => some (Value.bool b)) hg34) ?_
           refine Tk_seq (Tk_region (Tops_step rfl (OpT_fieldC rfl rfl rfl rfl fldF27x3) ?_))
           refine Tops_step rfl (OpT_loadC rfl rfl rfl rfl tyF22 (i := 0) rfl rfl) ?_
           refine Tops_step rfl (OpT_bin rfl rfl rfl rfl rfl (bin_add_u64 (a := rp0.Driver) (b := (4 : UInt64)))) ?_
           refine Tops_step rfl (OpT_move rfl rfl rfl rfl) ?_
           refine Tops_step rfl (OpT_bin rfl rfl rfl rfl rfl (bin_mul_u64 (a := (2 : UInt64)) (b := u64 rp0.Size))) ?_
           refine Tops_step rfl (OpT_bin rfl rfl rfl rfl rfl (bin_add_u64 (a := rp0.Driver + (4 : UInt64)) (b := (2 : UInt64) * (u64 rp0.Size)))) ?_
           refine Tops_step rfl (OpT_assign rfl rfl rfl rfl) ?_
           refine Tops_step rfl (OpT_assign rfl rfl rfl rfl) ?_
           refine Tops_step rfl (OpT_assign rfl rfl rfl rfl) ?_
           refine Tops_nil (Tk_wkS (fr' := [(6, some (vU64 ((rp0.Driver + (4 : UInt64)) + ((2 : UInt64) * (u64 rp0.Size))))), (7, some (vI (2 : Int))), (8, some (vI (0 : Int)))]) (own' := []) (shr' := []) [6, 7, 8] [] [] rfl rfl rfl rfl ?_)
           obtain rfl := Option.some.inj h
           exact Tk_retV rfl rfl (resA (vs := [vU64 ((rp0.Driver + (4 : UInt64)) + ((2 : UInt64) * (u64 rp0.Size))), vI (2 : Int), vI (0 : Int)]) rfl ⟨rfl, rfl, rfl, trivial⟩) [] [] rfl rfl rfl ⟨rfl, rfl, rfl⟩
          ·replace h := br_f hg34 h
           refine Tk_condF (congrArg (fun b => some (Value.bool b)) hg34) ?_
           refine Tk_seq (Tk_region (Tops_step rfl (OpT_bin rfl rfl rfl rfl rfl (bin_eql_i (a := what) (b := (6 : Int)))) ?_))
           refine Tops_step rfl (OpT_assign rfl rfl rfl rfl) ?_
           refine Tops_nil (Tk_wkS (fr' := [(3, some (.pointer (some ⟨b1, 0, none⟩))), (10, some (vU64 (u64 rp0.Size))), (11, some (vU64 (u64 ip2))), (66, some (vI what)), (92, some (vB (what == (6 : Int))))]) (own' := [some (cellsR b1 27 [vB rp0.Packed, vI rp0.Size, vU64 rp0.Desc, vU64 rp0.Driver, vU64 rp0.Device])]) (shr' := []) [3, 10, 11, 66, 92] [0] [] rfl rfl rfl rfl ?_)
           rcases Bool.eq_false_or_eq_true (what == (6 : Int)) with hg35 | hg35
           ·replace h := br_t hg35 h
            refine Tk_condT (congrArg (fun b => some (Value.bool b)) hg35) ?_
            refine Tk_seq (Tk_region (Tops_step rfl (OpT_fieldC rfl rfl rfl rfl fldF27x4) ?_))
            refine Tops_step rfl (OpT_loadC rfl rfl rfl rfl tyF22 (i := 0) rfl rfl) ?_
            refine Tops_step rfl (OpT_assign rfl rfl rfl rfl) ?_
            refine Tops_step rfl (OpT_assign rfl rfl rfl rfl) ?_
            refine Tops_step rfl (OpT_assign rfl rfl rfl rfl) ?_
            refine Tops_nil (Tk_wkS (fr' := [(6, some (vU64 rp0.Device)), (7, some (vI (2 : Int))), (8, some (vI (0 : Int)))]) (own' := []) (shr' := []) [6, 7, 8] [] [] rfl rfl rfl rfl ?_)
            obtain rfl := Option.some.inj h
            exact Tk_retV rfl rfl (resA (vs := [vU64 rp0.Device, vI (2 : Int), vI (0 : Int)]) rfl ⟨rfl, rfl, rfl, trivial⟩) [] [] rfl rfl rfl ⟨rfl, rfl, rfl⟩
           ·replace h := br_f hg35 h
            refine Tk_condF (congrArg (fun b => some (Value.bool b)) hg35) ?_
            refine Tk_seq (Tk_region (Tops_step rfl (OpT_bin rfl rfl rfl rfl rfl (bin_eql_i (a := what) (b := (7 : Int)))) ?_))
            refine Tops_step rfl (OpT_assign rfl rfl rfl rfl) ?_
            refine Tops_nil (Tk_wkS (fr' := [(3, some (.pointer (some ⟨b1, 0, none⟩))), (10, some (vU64 (u64 rp0.Size))), (11, some (vU64 (u64 ip2))), (66, some (vI what)), (96, some (vB (what == (7 : Int))))]) (own' := [some (cellsR b1 27 [vB rp0.Packed, vI rp0.Size, vU64 rp0.Desc, vU64 rp0.Driver, vU64 rp0.Device])]) (shr' := []) [3, 10, 11, 66, 96] [0] [] rfl rfl rfl rfl ?_)
            rcases Bool.eq_false_or_eq_true (what == (7 : Int)) with hg36 | hg36
            ·replace h := br_t hg36 h
             refine Tk_condT (congrArg (fun b => some (Value.bool b)) hg36) ?_
             refine Tk_seq (Tk_region (Tops_step rfl (OpT_fieldC rfl rfl rfl rfl fldF27x4) ?_))
             refine Tops_step rfl (OpT_loadC rfl rfl rfl rfl tyF22 (i := 0) rfl rfl) ?_
             refine Tops_step rfl (OpT_bin rfl rfl rfl rfl rfl (bin_add_u64 (a := rp0.Device) (b := (2 : UInt64)))) ?_
             refine Tops_step rfl (OpT_assign rfl rfl rfl rfl) ?_
             refine Tops_step rfl (OpT_assign rfl rfl rfl rfl) ?_
             refine Tops_step rfl (OpT_assign rfl rfl rfl rfl) ?_
             refine Tops_nil (Tk_wkS (fr' := [(6, some (vU64 (rp0.Device + (2 : UInt64)))), (7, some (vI (2 : Int))), (8, some (vI (0 : Int)))]) (own' := []) (shr' := []) [6, 7, 8] [] [] rfl rfl rfl rfl ?_)
             obtain rfl := Option.some.inj h
             exact Tk_retV rfl rfl (resA (vs := [vU64 (rp0.Device + (2 : UInt64)), vI (2 : Int), vI (0 : Int)]) rfl ⟨rfl, rfl, rfl, trivial⟩) [] [] rfl rfl rfl ⟨rfl, rfl, rfl⟩
            ·replace h := br_f hg36 h
             refine Tk_condF (congrArg (fun b => some (Value.bool b)) hg36) ?_
             refine Tk_seq (Tk_region (Tops_step rfl (OpT_bin rfl rfl rfl rfl rfl (bin_eql_i (a := what) (b := (8 : Int)))) ?_))
             refine Tops_step rfl (OpT_assign rfl rfl rfl rfl) ?_
             refine Tops_nil (Tk_wkS (fr' := [(3, some (.pointer (some ⟨b1, 0, none⟩))), (10, some (vU64 (u64 rp0.Size))), (11, some (vU64 (u64 ip2))), (66, some (vI what)), (101, some (vB (what == (8 : Int))))]) (own' := [some (cellsR b1 27 [vB rp0.Packed, vI rp0.Size, vU64 rp0.Desc, vU64 rp0.Driver, vU64 rp0.Device])]) (shr' := []) [3, 10, 11, 66, 101] [0] [] rfl rfl rfl rfl ?_)
             rcases Bool.eq_false_or_eq_true (what == (8 : Int)) with hg37 | hg37
             ·replace h := br_t hg37 h
              refine Tk_condT (congrArg (fun b => some (Value.bool b)) hg37) ?_
              refine Tk_seq (Tk_region (Tops_step rfl (OpT_fieldC rfl rfl rfl rfl fldF27x4) ?_))
              refine Tops_step rfl (OpT_loadC rfl rfl rfl rfl tyF22 (i := 0) rfl rfl) ?_
              refine Tops_step rfl (OpT_bin rfl rfl rfl rfl rfl (bin_add_u64 (a := rp0.Device) (b := (4 : UInt64)))) ?_
              refine Tops_step rfl (OpT_move rfl rfl rfl rfl) ?_
              refine Tops_step rfl (OpT_bin rfl rfl rfl rfl rfl (bin_mul_u64 (a := (8 : UInt64)) (b := u64 ip2))) ?_
              refine Tops_step rfl (OpT_bin rfl rfl rfl rfl rfl (bin_add_u64 (a := rp0.Device + (4 : UInt64)) (b := (8 : UInt64) * (u64 ip2)))) ?_
              refine Tops_step rfl (OpT_assign rfl rfl rfl rfl) ?_
              refine Tops_step rfl (OpT_assign rfl rfl rfl rfl) ?_
              refine Tops_step rfl (OpT_assign rfl rfl rfl rfl) ?_
              refine Tops_nil (Tk_wkS (fr' := [(6, some (vU64 ((rp0.Device + (4 : UInt64)) + ((8 : UInt64) * (u64 ip2))))), (7, some (vI (8 : Int))), (8, some (vI (0 : Int)))]) (own' := []) (shr' := []) [6, 7, 8] [] [] rfl rfl rfl rfl ?_)
              obtain rfl := Option.some.inj h
              exact Tk_retV rfl rfl (resA (vs := [vU64 ((rp0.Device + (4 : UInt64)) + ((8 : UInt64) * (u64 ip2))), vI (8 : Int), vI (0 : Int)]) rfl ⟨rfl, rfl, rfl, trivial⟩) [] [] rfl rfl rfl ⟨rfl, rfl, rfl⟩
             ·replace h := br_f hg37 h
              refine Tk_condF (congrArg (fun b => some (Value.bool b)) hg37) ?_
              refine Tk_seq (Tk_region (Tops_step rfl (OpT_bin rfl rfl rfl rfl rfl (bin_eql_i (a := what) (b := (9 : Int)))) ?_))
              refine Tops_step rfl (OpT_assign rfl rfl rfl rfl) ?_
              refine Tops_nil (Tk_wkS (fr' := [(3, some (.pointer (some ⟨b1, 0, none⟩))), (10, some (vU64 (u64 rp0.Size))), (109, some (vB (what == (9 : Int))))]) (own' := [some (cellsR b1 27 [vB rp0.Packed, vI rp0.Size, vU64 rp0.Desc, vU64 rp0.Driver, vU64 rp0.Device])]) (shr' := []) [3, 10, 109] [0] [] rfl rfl rfl rfl ?_)
              rcases Bool.eq_false_or_eq_true (what == (9 : Int)) with hg38 | hg38
              ·replace h := br_t hg38 h
               refine Tk_condT (congrArg (fun b => some (Value.bool b)) hg38) ?_
               refine Tk_seq (Tk_region (Tops_step rfl (OpT_fieldC rfl rfl rfl rfl fldF27x4) ?_))
               refine Tops_step rfl (OpT_loadC rfl rfl rfl rfl tyF22 (i := 0) rfl rfl) ?_
               refine Tops_step rfl (OpT_bin rfl rfl rfl rfl rfl (bin_add_u64 (a := rp0.Device) (b := (4 : UInt64)))) ?_
               refine Tops_step rfl (OpT_move rfl rfl rfl rfl) ?_
               refine Tops_step rfl (OpT_bin rfl rfl rfl rfl rfl (bin_mul_u64 (a := (8 : UInt64)) (b := u64 rp0.Size))) ?_
               refine Tops_step rfl (OpT_bin rfl rfl rfl rfl rfl (bin_add_u64 (a := rp0.Device + (4 : UInt64)) (b := (8 : UInt64) * (u64 rp0.Size)))) ?_
               refine Tops_step rfl (OpT_assign rfl rfl rfl rfl) ?_
               refine Tops_step rfl (OpT_assign rfl rfl rfl rfl) ?_
               refine Tops_step rfl (OpT_assign rfl rfl rfl rfl) ?_
               refine Tops_nil (Tk_wkS (fr' := [(6, some (vU64 ((rp0.Device + (4 : UInt64)) + ((8 : UInt64) * (u64 rp0.Size))))), (7, some (vI (2 : Int))), (8, some (vI (0 : Int)))]) (own' := []) (shr' := []) [6, 7, 8] [] [] rfl rfl rfl rfl ?_)
               obtain rfl := Option.some.inj h
               exact Tk_retV rfl rfl (resA (vs := [vU64 ((rp0.Device + (4 : UInt64)) + ((8 : UInt64) * (u64 rp0.Size))), vI (2 : Int), vI (0 : Int)]) rfl ⟨rfl, rfl, rfl, trivial⟩) [] [] rfl rfl rfl ⟨rfl, rfl, rfl⟩
              ·replace h := br_f hg38 h
               refine Tk_condF (congrArg (fun b => some (Value.bool b)) hg38) ?_
               refine Tk_skip (Tk_blk (Tk_seq (Tk_region (Tops_step rfl (OpT_assign rfl rfl rfl rfl) ?_))))
               refine Tops_step rfl (OpT_assign rfl rfl rfl rfl) ?_
               refine Tops_step rfl (OpT_assign rfl rfl rfl rfl) ?_
               refine Tops_nil (Tk_wkS (fr' := [(6, some (vU64 (0 : UInt64))), (7, some (vI (0 : Int))), (8, some (vI (2 : Int)))]) (own' := []) (shr' := []) [6, 7, 8] [] [] rfl rfl rfl rfl ?_)
               obtain rfl := Option.some.inj h
               exact Tk_retV rfl rfl (resA (vs := [vU64 (0 : UInt64), vI (0 : Int), vI (2 : Int)]) rfl ⟨rfl, rfl, rfl, trivial⟩) [] [] rfl rfl rfl ⟨rfl, rfl, rfl⟩

set_option maxRecDepth 100000 in
set_option maxHeartbeats 4000000 in
theorem w_ref_Align01 {np0 : UInt64} {top1 : UInt64} {r : (UInt64 × Int)} (h : ref_Align01 np0 top1 = some r) :
  Ctr Try.prog 39 #[vU64 np0, vU64 top1] [] []
   (fun rv own shr => rv = .tuple #[vU64 r.1, vI r.2] ∧ own = [] ∧ shr = []) := by
 unfold ref_Align01 at h
 refine Ctr.mk (args := [vU64 np0, vU64 top1]) Try.func39 rfl rfl (fun R0 w0 B => ?_)
 refine Tk_seq (Tk_region (Tops_step rfl (OpT_assign rfl rfl rfl rfl) ?_))
 refine Tops_step rfl (OpT_assign rfl rfl rfl rfl) ?_
 refine Tops_nil (Tk_wkS (fr' := [(0, some (vU64 np0)), (1, some (vU64 top1))]) (own' := []) (shr' := []) [0, 1] [] [] rfl rfl rfl rfl ?_)
 refine Tk_seq (Tk_seq (Tk_region (Tops_step rfl (OpT_move rfl rfl rfl rfl) ?_)))
 refine Tops_step rfl (OpT_bin rfl rfl rfl rfl rfl (bin_eql_u64 (a := top1) (b := (0 : UInt64)))) ?_
 refine Tops_step rfl (OpT_move rfl rfl rfl rfl) ?_
 rcases Bool.eq_false_or_eq_true (top1 == (0 : UInt64)) with hg1 | hg1
 ·replace h := br_t hg1 h
  refine Tops_no rfl rfl (congrArg (fun b => some (Value.bool b)) hg1) rfl rfl ?_
  refine Tops_no rfl rfl (congrArg (fun b => some (Value.bool b)) hg1) rfl rfl ?_
  refine Tops_no rfl rfl (congrArg (fun b => some (Value.bool b)) hg1) rfl rfl ?_
  refine Tops_no rfl rfl (congrArg (fun b => some (Value.bool b)) hg1) rfl rfl ?_
  refine Tops_no rfl rfl (congrArg (fun b => some (Value.bool b)) hg1) rfl rfl ?_
  refine Tops_step rfl (OpT_pickT rfl rfl rfl (congrArg (fun b => some (Value.bool b)) hg1) rfl) ?_
  refine Tops_nil (Tk_wkS (fr' := [(0, some (vU64 np0)), (1, some (vU64 top1)), (15, some (vB true))]) (own' := []) (shr' := []) [0, 1, 15] [] [] rfl rfl rfl rfl ?_)
  refine Tk_condT rfl ?_
  refine Tk_seq (Tk_region (Tops_step rfl (OpT_assign rfl rfl rfl rfl) ?_))
  refine Tops_step rfl (OpT_assign rfl rfl rfl rfl) ?_
  refine Tops_nil (Tk_wkS (fr' := [(4, some (vU64 (0 : UInt64))), (5, some (vI (2 : Int)))]) (own' := []) (shr' := []) [4, 5] [] [] rfl rfl rfl rfl ?_)
  obtain rfl := Option.some.inj h
  exact Tk_retV rfl rfl (resA (vs := [vU64 (0 : UInt64), vI (2 : Int)]) rfl ⟨rfl, rfl, trivial⟩) [] [] rfl rfl rfl ⟨rfl, rfl, rfl⟩
 ·replace h := br_f hg1 h
  refine Tops_yes rfl rfl (congrArg (fun b => some (Value.bool b)) hg1) (OpT_move rfl rfl rfl rfl) ?_
  rintro _ rfl
  refine Tops_yes rfl rfl (congrArg (fun b => some (Value.bool b)) hg1) (OpT_move rfl rfl rfl rfl) ?_
  rintro _ rfl
  refine Tops_yes rfl rfl (congrArg (fun b => some (Value.bool b)) hg1) (OpT_bin rfl rfl rfl rfl rfl (bin_sub_u64 (a := top1) (b := (1 : UInt64)))) ?_
  rintro _ rfl
  refine Tops_yes rfl rfl (congrArg (fun b => some (Value.bool b)) hg1) (OpT_bin rfl rfl rfl rfl rfl (bin_and_u64 (a := top1) (b := top1 - (1 : UInt64)))) ?_
  rintro _ rfl
  refine Tops_yes rfl rfl (congrArg (fun b => some (Value.bool b)) hg1) (OpT_bin rfl rfl rfl rfl rfl (bin_neq_u64 (a := top1 &&& (top1 - (1 : UInt64))) (b := (0 : UInt64)))) ?_
  rintro _ rfl
  refine Tops_step rfl (OpT_pickF rfl rfl rfl (congrArg (fun b => some (Value.bool b)) hg1) rfl) ?_
  refine Tops_nil (Tk_wkS (fr' := [(0, some (vU64 np0)), (1, some (vU64 top1)), (15, some (vB ((top1 &&& (top1 - (1 : UInt64))) != (0 : UInt64))))]) (own' := []) (shr' := []) [0, 1, 15] [] [] rfl rfl rfl rfl ?_)
  rcases Bool.eq_false_or_eq_true ((top1 &&& (top1 - (1 : UInt64))) != (0 : UInt64)) with hg2 | hg2
  ·replace h := br_t hg2 h
   refine Tk_condT (congrArg (fun b => some (Value.bool b)) hg2) ?_
   refine Tk_seq (Tk_region (Tops_step rfl (OpT_assign rfl rfl rfl rfl) ?_))
   refine Tops_step rfl (OpT_assign rfl rfl rfl rfl) ?_
   refine Tops_nil (Tk_wkS (fr' := [(4, some (vU64 (0 : UInt64))), (5, some (vI (2 : Int)))]) (own' := []) (shr' := []) [4, 5] [] [] rfl rfl rfl rfl ?_)
   obtain rfl := Option.some.inj h
   exact Tk_retV rfl rfl (resA (vs := [vU64 (0 : UInt64), vI (2 : Int)]) rfl ⟨rfl, rfl, trivial⟩) [] [] rfl rfl rfl ⟨rfl, rfl, rfl⟩
  ·replace h := br_f hg2 h
   refine Tk_condF (congrArg (fun b => some (Value.bool b)) hg2) ?_
   refine Tk_skip (Tk_seq (Tk_seq (Tk_region (Tops_step rfl (OpT_move rfl rfl rfl rfl) ?_))))
   refine Tops_step rfl (OpT_move rfl rfl rfl rfl) ?_
   obtain ⟨hc1, h⟩ := chk_e h
   refine Tops_step rfl (OpT_bin rfl rfl rfl rfl rfl (bin_rem_u64 (a := np0) (b := top1) (not_t hc1))) ?_
   refine Tops_step rfl (OpT_bin rfl rfl rfl rfl rfl (bin_eql_u64 (a := np0 % top1) (b := (0 : UInt64)))) ?_
   refine Tops_nil (Tk_wkS (fr' := [(0, some (vU64 np0)), (1, some (vU64 top1)), (19, some (vB ((np0 % top1) == (0 : UInt64))))]) (own' := []) (shr' := []) [0, 1, 19] [] [] rfl rfl rfl rfl ?_)
   rcases Bool.eq_false_or_eq_true ((np0 % top1) == (0 : UInt64)) with hg3 | hg3
   ·replace h := br_t hg3 h
    refine Tk_condT (congrArg (fun b => some (Value.bool b)) hg3) ?_
    refine Tk_seq (Tk_region (Tops_step rfl (OpT_move rfl rfl rfl rfl) ?_))
    refine Tops_step rfl (OpT_assign rfl rfl rfl rfl) ?_
    refine Tops_step rfl (OpT_assign rfl rfl rfl rfl) ?_
    refine Tops_nil (Tk_wkS (fr' := [(4, some (vU64 np0)), (5, some (vI (0 : Int)))]) (own' := []) (shr' := []) [4, 5] [] [] rfl rfl rfl rfl ?_)
    obtain rfl := Option.some.inj h
    exact Tk_retV rfl rfl (resA (vs := [vU64 np0, vI (0 : Int)]) rfl ⟨rfl, rfl, trivial⟩) [] [] rfl rfl rfl ⟨rfl, rfl, rfl⟩
   ·replace h := br_f hg3 h
    refine Tk_condF (congrArg (fun b => some (Value.bool b)) hg3) ?_
    refine Tk_skip (Tk_seq (Tk_region (Tops_step rfl (OpT_move rfl rfl rfl rfl) ?_)))
    refine Tops_step rfl (OpT_move rfl rfl rfl rfl) ?_
    refine Tops_step rfl (OpT_move rfl rfl rfl rfl) ?_
    obtain ⟨hc2, h⟩ := chk_e h
    refine Tops_step rfl (OpT_bin rfl rfl rfl rfl rfl (bin_rem_u64 (a := np0) (b := top1) (not_t hc2))) ?_
    refine Tops_step rfl (OpT_bin rfl rfl rfl rfl rfl (bin_sub_u64 (a := np0) (b := np0 % top1))) ?_
    refine Tops_step rfl (OpT_move rfl rfl rfl rfl) ?_
    refine Tops_step rfl (OpT_bin rfl rfl rfl rfl rfl (bin_add_u64 (a := np0 - (np0 % top1)) (b := top1))) ?_
    refine Tops_step rfl (OpT_assign rfl rfl rfl rfl) ?_
    refine Tops_nil (Tk_wkS (fr' := [(0, some (vU64 np0)), (6, some (vU64 ((np0 - (np0 % top1)) + top1)))]) (own' := []) (shr' := []) [0, 6] [] [] rfl rfl rfl rfl ?_)
    refine Tk_seq (Tk_seq (Tk_region (Tops_step rfl (OpT_move rfl rfl rfl rfl) ?_)))
    refine Tops_step rfl (OpT_move rfl rfl rfl rfl) ?_
    refine Tops_step rfl (OpT_bin rfl rfl rfl rfl rfl (bin_lss_u64 (a := (np0 - (np0 % top1)) + top1) (b := np0))) ?_
    refine Tops_nil (Tk_wkS (fr' := [(6, some (vU64 ((np0 - (np0 % top1)) + top1))), (30, some (vB (decide (((np0 - (np0 % top1)) + top1) < np0))))]) (own' := []) (shr' := []) [6, 30] [] [] rfl rfl rfl rfl ?_)
    rcases Bool.eq_false_or_eq_true (decide (((np0 - (np0 % top1)) + top1) < np0)) with hg4 | hg4
    ·replace h := br_t hg4 h
     refine Tk_condT (congrArg (fun b => some (Value.bool b)) hg4) ?_
     refine Tk_seq (Tk_region (Tops_step rfl (OpT_assign rfl rfl rfl rfl) ?_))
     refine Tops_step rfl (OpT_assign rfl rfl rfl rfl) ?_
     refine Tops_nil (Tk_wkS (fr' := [(4, some (vU64 (0 : UInt64))), (5, some (vI (2 : Int)))]) (own' := []) (shr' := []) [4, 5] [] [] rfl rfl rfl rfl ?_)
     obtain rfl := Option.some.inj h
     exact Tk_retV rfl rfl (resA (vs := [vU64 (0 : UInt64), vI (2 : Int)]) rfl ⟨rfl, rfl, trivial⟩) [] [] rfl rfl rfl ⟨rfl, rfl, rfl⟩
    ·replace h := br_f hg4 h
     refine Tk_condF (congrArg (fun b => some (Value.bool b)) hg4) ?_
     refine Tk_skip (Tk_seq (Tk_region (Tops_step rfl (OpT_move rfl rfl rfl rfl) ?_)))
     refine Tops_step rfl (OpT_assign rfl rfl rfl rfl) ?_
     refine Tops_step rfl (OpT_assign rfl rfl rfl rfl) ?_
     refine Tops_nil (Tk_wkS (fr' := [(4, some (vU64 ((np0 - (np0 % top1)) + top1))), (5, some (vI (0 : Int)))]) (own' := []) (shr' := []) [4, 5] [] [] rfl rfl rfl rfl ?_)
     obtain rfl := Option.some.inj h
     exact Tk_retV rfl rfl (resA (vs := [vU64 ((np0 - (np0 % top1)) + top1), vI (0 : Int)]) rfl ⟨rfl, rfl, trivial⟩) [] [] rfl rfl rfl ⟨rfl, rfl, rfl⟩

set_option maxRecDepth 100000 in
set_option maxHeartbeats 4000000 in
theorem w_ref_Place04 {packed : Bool} {np1 : Int} {base : UInt64} {r : (Rings × UInt64 × Int)} (h : ref_Place04 packed np1 base = some r) :
  Ctr Try.prog 23 #[vB packed, vI np1, vU64 base] [] []
   (fun rv own shr => rv = .tuple #[.agg #[vB r.1.Packed, vI r.1.Size, vU64 r.1.Desc, vU64 r.1.Driver, vU64 r.1.Device], vU64 r.2.1, vI r.2.2] ∧ own = [] ∧ shr = []) := by
 unfold ref_Place04 at h
 refine Ctr.mk (args := [vB packed, vI np1, vU64 base]) Try.func23 rfl rfl (fun R0 w0 B => ?_)
 refine Tk_seq (Tk_region (Tops_ex rfl (OpT_alloc rfl rfl rfl tyZ27) fun b1 => ?_))
 refine Tops_step rfl (OpT_assign rfl rfl rfl rfl) ?_
 refine Tops_step rfl (OpT_assign rfl rfl rfl rfl) ?_
 refine Tops_nil (Tk_wkS (fr' := [(0, some (vB packed)), (1, some (vI np1)), (2, some (vU64 base)), (6, some (.pointer (some ⟨b1, 0, none⟩)))]) (own' := [some (cellsR b1 27 [vB false, vI (0 : Int), vU64 (0 : UInt64), vU64 (0 : UInt64), vU64 (0 : UInt64)])]) (shr' := []) [0, 1, 2, 6] [0] [] rfl rfl rfl rfl ?_)
 refine Tk_seq (Tk_region (Tops_step rfl (OpT_move rfl rfl rfl rfl) ?_))
 refine Tops_step rfl (OpT_move rfl rfl rfl rfl) ?_
 refine Tops_step rfl (OpT_build (v := .agg #[vB packed, vI np1, vU64 (0 : UInt64), vU64 (0 : UInt64), vU64 (0 : UInt64)]) rfl rfl rfl rfl (bldV (by kernel_rfl))) ?_
 refine Tops_ex rfl (OpT_alloc rfl rfl rfl tyZ27) fun b2 => ?_
 refine Tops_step rfl (OpT_storeC (cs' := [vB packed, vI np1, vU64 (0 : UInt64), vU64 (0 : UInt64), vU64 (0 : UInt64)]) rfl rfl rfl rfl tyF27 (i := 1) rfl rfl rfl (one_of rfl) rfl) ?_
 refine Tops_nil (Tk_wkS (fr' := [(0, some (vB packed)), (2, some (vU64 base)), (6, some (.pointer (some ⟨b1, 0, none⟩))), (9, some (.pointer (some ⟨b2, 0, none⟩)))]) (own' := [some (cellsR b1 27 [vB false, vI (0 : Int), vU64 (0 : UInt64), vU64 (0 : UInt64), vU64 (0 : UInt64)]), some (cellsR b2 27 [vB packed, vI np1, vU64 (0 : UInt64), vU64 (0 : UInt64), vU64 (0 : UInt64)])]) (shr' := []) [0, 2, 6, 9] [0, 1] [] rfl rfl rfl rfl ?_)
 refine Tk_seq (Tk_region (Tops_step rfl (OpT_loadCA (vs := [vB packed, vI np1, vU64 (0 : UInt64), vU64 (0 : UInt64), vU64 (0 : UInt64)]) rfl rfl rfl rfl tyF27 (i := 1) rfl rfl rfl) ?_))
 obtain ⟨parts1, hx1, h⟩ := ob_e h
 refine Tops_exP rfl (OpT_call (w_ref_Parts04 hx1) [] [] rfl rfl rfl rfl rfl callee19 rfl rfl rfl rfl) ?_
 rintro _ ⟨_, _, _, ⟨rfl, rfl, rfl⟩, rfl⟩
 refine Tops_step rfl (OpT_move rfl rfl rfl rfl) ?_
 refine Tops_step rfl (OpT_extract rfl rfl rfl rfl rfl) ?_
 refine Tops_step rfl (OpT_extract rfl rfl rfl rfl rfl) ?_
 refine Tops_step rfl (OpT_extract rfl rfl rfl rfl rfl) ?_
 refine Tops_step rfl (OpT_assign rfl rfl rfl rfl) ?_
 refine Tops_step rfl (OpT_assign rfl rfl rfl rfl) ?_
 refine Tops_step rfl (OpT_assign rfl rfl rfl rfl) ?_
 refine Tops_nil (Tk_wkS (fr' := [(0, some (vB packed)), (2, some (vU64 base)), (6, some (.pointer (some ⟨b1, 0, none⟩))), (9, some (.pointer (some ⟨b2, 0, none⟩))), (10, some (vU64 parts1.1)), (11, some (vU64 parts1.2.1)), (12, some (vU64 parts1.2.2))]) (own' := [some (cellsR b1 27 [vB false, vI (0 : Int), vU64 (0 : UInt64), vU64 (0 : UInt64), vU64 (0 : UInt64)]), some (cellsR b2 27 [vB packed, vI np1, vU64 (0 : UInt64), vU64 (0 : UInt64), vU64 (0 : UInt64)])]) (shr' := []) [0, 2, 6, 9, 10, 11, 12] [0, 1] [] rfl rfl rfl rfl ?_)
 refine Tk_seq (Tk_seq (Tk_region (Tops_step rfl (OpT_move rfl rfl rfl rfl) ?_)))
 refine Tops_step rfl (OpT_bin rfl rfl rfl rfl rfl (bin_eql_u64 (a := parts1.1) (b := (0 : UInt64)))) ?_
 refine Tops_nil (Tk_wkS (fr' := [(0, some (vB packed)), (2, some (vU64 base)), (6, some (.pointer (some ⟨b1, 0, none⟩))), (9, some (.pointer (some ⟨b2, 0, none⟩))), (10, some (vU64 parts1.1)), (11, some (vU64 parts1.2.1)), (12, some (vU64 parts1.2.2)), (27, some (vB (parts1.1 == (0 : UInt64))))]) (own' := [some (cellsR b1 27 [vB false, vI (0 : Int), vU64 (0 : UInt64), vU64 (0 : UInt64), vU64 (0 : UInt64)]), some (cellsR b2 27 [vB packed, vI np1, vU64 (0 : UInt64), vU64 (0 : UInt64), vU64 (0 : UInt64)])]) (shr' := []) [0, 2, 6, 9, 10, 11, 12, 27] [0, 1] [] rfl rfl rfl rfl ?_)
 rcases Bool.eq_false_or_eq_true (parts1.1 == (0 : UInt64)) with hg1 | hg1
 ·replace h := br_t hg1 h
  refine Tk_condT (congrArg (fun b => some (Value.bool b)) hg1) ?_
  refine Tk_seq (Tk_region (Tops_step rfl (OpT_build (v := .agg #[vB false, vI (0 : Int), vU64 (0 : UInt64), vU64 (0 : UInt64), vU64 (0 : UInt64)]) rfl rfl rfl rfl (bldV (by kernel_rfl))) ?_))
  refine Tops_step rfl (OpT_storeC (cs' := [vB false, vI (0 : Int), vU64 (0 : UInt64), vU64 (0 : UInt64), vU64 (0 : UInt64)]) rfl rfl rfl rfl tyF27 (i := 0) rfl rfl rfl (one_of rfl) rfl) ?_
  refine Tops_step rfl (OpT_assign rfl rfl rfl rfl) ?_
  refine Tops_step rfl (OpT_assign rfl rfl rfl rfl) ?_
  refine Tops_nil (Tk_wkS (fr' := [(6, some (.pointer (some ⟨b1, 0, none⟩))), (7, some (vU64 (0 : UInt64))), (8, some (vI (2 : Int)))]) (own' := [some (cellsR b1 27 [vB false, vI (0 : Int), vU64 (0 : UInt64), vU64 (0 : UInt64), vU64 (0 : UInt64)])]) (shr' := []) [6, 7, 8] [0] [] rfl rfl rfl rfl ?_)
  obtain rfl := Option.some.inj h
  exact Tk_retV rfl rfl (resA (vs := [.agg #[vB false, vI (0 : Int), vU64 (0 : UInt64), vU64 (0 : UInt64), vU64 (0 : UInt64)], vU64 (0 : UInt64), vI (2 : Int)]) rfl ⟨⟨_, 0, _, _, _, rfl, rfl, .inl ⟨tyF27, rfl, rfl⟩⟩, rfl, rfl, trivial⟩) [] [] rfl rfl rfl ⟨rfl, rfl, rfl⟩
 ·replace h := br_f hg1 h
  refine Tk_condF (congrArg (fun b => some (Value.bool b)) hg1) ?_
  refine Tk_skip (Tk_seq (Tk_region (Tops_step rfl (OpT_assign rfl rfl rfl rfl) ?_)))
  refine Tops_nil (Tk_wkS (fr' := [(0, some (vB packed)), (2, some (vU64 base)), (6, some (.pointer (some ⟨b1, 0, none⟩))), (9, some (.pointer (some ⟨b2, 0, none⟩))), (10, some (vU64 parts1.1)), (11, some (vU64 parts1.2.1)), (12, some (vU64 parts1.2.2)), (13, some (vU64 (2 : UInt64)))]) (own' := [some (cellsR b1 27 [vB false, vI (0 : Int), vU64 (0 : UInt64), vU64 (0 : UInt64), vU64 (0 : UInt64)]), some (cellsR b2 27 [vB packed, vI np1, vU64 (0 : UInt64), vU64 (0 : UInt64), vU64 (0 : UInt64)])]) (shr' := []) [0, 2, 6, 9, 10, 11, 12, 13] [0, 1] [] rfl rfl rfl rfl ?_)
  refine Tk_seq (Tk_seq (Tk_region (Tops_step rfl (OpT_move rfl rfl rfl rfl) ?_)))
  refine Tops_nil (Tk_wkS (fr' := [(2, some (vU64 base)), (6, some (.pointer (some ⟨b1, 0, none⟩))), (9, some (.pointer (some ⟨b2, 0, none⟩))), (10, some (vU64 parts1.1)), (11, some (vU64 parts1.2.1)), (12, some (vU64 parts1.2.2)), (13, some (vU64 (2 : UInt64))), (29, some (vB packed))]) (own' := [some (cellsR b1 27 [vB false, vI (0 : Int), vU64 (0 : UInt64), vU64 (0 : UInt64), vU64 (0 : UInt64)]), some (cellsR b2 27 [vB packed, vI np1, vU64 (0 : UInt64), vU64 (0 : UInt64), vU64 (0 : UInt64)])]) (shr' := []) [2, 6, 9, 10, 11, 12, 13, 29] [0, 1] [] rfl rfl rfl rfl ?_)
  refine Tk_join (α := UInt64) (fun s => ⟨[(2, some (vU64 base)), (6, some (.pointer (some ⟨b1, 0, none⟩))), (9, some (.pointer (some ⟨b2, 0, none⟩))), (10, some (vU64 parts1.1)), (11, some (vU64 parts1.2.1)), (12, some (vU64 parts1.2.2)), (13, some (vU64 s))], [some (cellsR b1 27 [vB false, vI (0 : Int), vU64 (0 : UInt64), vU64 (0 : UInt64), vU64 (0 : UInt64)]), some (cellsR b2 27 [vB packed, vI np1, vU64 (0 : UInt64), vU64 (0 : UInt64), vU64 (0 : UInt64)])], []⟩) (fun s => ref_Place04J1 packed np1 base parts1 s = some r) ?_ ?_
  ·rintro to1 h
   replace h : ref_Place04J1 packed np1 base parts1 to1 = some r := h
   unfold ref_Place04J1 at h
   refine Tk_seq (Tk_region (Tops_step rfl (OpT_assign rfl rfl rfl rfl) ?_))
   refine Tops_step rfl (OpT_assign rfl rfl rfl rfl) ?_
   refine Tops_step rfl (OpT_assign rfl rfl rfl rfl) ?_
   refine Tops_nil (Tk_wkS (fr' := [(2, some (vU64 base)), (6, some (.pointer (some ⟨b1, 0, none⟩))), (9, some (.pointer (some ⟨b2, 0, none⟩))), (10, some (vU64 parts1.1)), (11, some (vU64 parts1.2.1)), (12, some (vU64 parts1.2.2)), (13, some (vU64 to1))]) (own' := [some (cellsR b1 27 [vB false, vI (0 : Int), vU64 (0 : UInt64), vU64 (0 : UInt64), vU64 (0 : UInt64)]), some (cellsR b2 27 [vB packed, vI np1, vU64 (0 : UInt64), vU64 (0 : UInt64), vU64 (0 : UInt64)])]) (shr' := []) [2, 6, 9, 10, 11, 12, 13] [0, 1] [] rfl rfl rfl rfl ?_)
   refine Tk_seq (Tk_region (Tops_step rfl (OpT_move rfl rfl rfl rfl) ?_))
   obtain ⟨align1, hx2, h⟩ := ob_e h
   refine Tops_exP rfl (OpT_call (w_ref_Align01 hx2) [] [] rfl rfl rfl rfl rfl callee39 rfl rfl rfl rfl) ?_
   rintro _ ⟨_, _, _, ⟨rfl, rfl, rfl⟩, rfl⟩
   refine Tops_step rfl (OpT_move rfl rfl rfl rfl) ?_
   refine Tops_step rfl (OpT_extract rfl rfl rfl rfl rfl) ?_
   refine Tops_step rfl (OpT_extract rfl rfl rfl rfl rfl) ?_
   refine Tops_step rfl (OpT_fieldC rfl rfl rfl rfl fldF27x2) ?_
   refine Tops_step rfl (OpT_storeC (cs' := [vB packed, vI np1, vU64 align1.1, vU64 (0 : UInt64), vU64 (0 : UInt64)]) rfl rfl rfl rfl tyF22 (i := 1) rfl rfl rfl (one_of rfl) rfl) ?_
   refine Tops_step rfl (OpT_assign rfl rfl rfl rfl) ?_
   refine Tops_nil (Tk_wkS (fr' := [(2, some (vU64 base)), (6, some (.pointer (some ⟨b1, 0, none⟩))), (9, some (.pointer (some ⟨b2, 0, none⟩))), (10, some (vU64 parts1.1)), (11, some (vU64 parts1.2.1)), (12, some (vU64 parts1.2.2)), (13, some (vU64 to1)), (14, some (vI align1.2))]) (own' := [some (cellsR b1 27 [vB false, vI (0 : Int), vU64 (0 : UInt64), vU64 (0 : UInt64), vU64 (0 : UInt64)]), some (cellsR b2 27 [vB packed, vI np1, vU64 align1.1, vU64 (0 : UInt64), vU64 (0 : UInt64)])]) (shr' := []) [2, 6, 9, 10, 11, 12, 13, 14] [0, 1] [] rfl rfl rfl rfl ?_)
   refine Tk_seq (Tk_region (Tops_step rfl (OpT_fieldC rfl rfl rfl rfl fldF27x2) ?_))
   refine Tops_step rfl (OpT_loadC rfl rfl rfl rfl tyF22 (i := 1) rfl rfl) ?_
   refine Tops_step rfl (OpT_move rfl rfl rfl rfl) ?_
   refine Tops_step rfl (OpT_bin rfl rfl rfl rfl rfl (bin_add_u64 (a := align1.1) (b := parts1.1))) ?_
   refine Tops_step rfl (OpT_move rfl rfl rfl rfl) ?_
   obtain ⟨align2, hx3, h⟩ := ob_e h
   refine Tops_exP rfl (OpT_call (w_ref_Align01 hx3) [] [] rfl rfl rfl rfl rfl callee39 rfl rfl rfl rfl) ?_
   rintro _ ⟨_, _, _, ⟨rfl, rfl, rfl⟩, rfl⟩
   refine Tops_step rfl (OpT_move rfl rfl rfl rfl) ?_
   refine Tops_step rfl (OpT_extract rfl rfl rfl rfl rfl) ?_
   refine Tops_step rfl (OpT_extract rfl rfl rfl rfl rfl) ?_
   refine Tops_step rfl (OpT_fieldC rfl rfl rfl rfl fldF27x3) ?_
   refine Tops_step rfl (OpT_storeC (cs' := [vB packed, vI np1, vU64 align1.1, vU64 align2.1, vU64 (0 : UInt64)]) rfl rfl rfl rfl tyF22 (i := 1) rfl rfl rfl (one_of rfl) rfl) ?_
   refine Tops_step rfl (OpT_assign rfl rfl rfl rfl) ?_
   refine Tops_nil (Tk_wkS (fr' := [(2, some (vU64 base)), (6, some (.pointer (some ⟨b1, 0, none⟩))), (9, some (.pointer (some ⟨b2, 0, none⟩))), (10, some (vU64 parts1.1)), (11, some (vU64 parts1.2.1)), (12, some (vU64 parts1.2.2)), (14, some (vI align1.2)), (15, some (vI align2.2))]) (own' := [some (cellsR b1 27 [vB false, vI (0 : Int), vU64 (0 : UInt64), vU64 (0 : UInt64), vU64 (0 : UInt64)]), some (cellsR b2 27 [vB packed, vI np1, vU64 align1.1, vU64 align2.1, vU64 (0 : UInt64)])]) (shr' := []) [2, 6, 9, 10, 11, 12, 14, 15] [0, 1] [] rfl rfl rfl rfl ?_)
   refine Tk_seq (Tk_region (Tops_step rfl (OpT_fieldC rfl rfl rfl rfl fldF27x3) ?_))
   refine Tops_step rfl (OpT_loadC rfl rfl rfl rfl tyF22 (i := 1) rfl rfl) ?_
   refine Tops_step rfl (OpT_move rfl rfl rfl rfl) ?_
   refine Tops_step rfl (OpT_bin rfl rfl rfl rfl rfl (bin_add_u64 (a := align2.1) (b := parts1.2.1))) ?_
   obtain ⟨align3, hx4, h⟩ := ob_e h
   refine Tops_exP rfl (OpT_call (w_ref_Align01 hx4) [] [] rfl rfl rfl rfl rfl callee39 rfl rfl rfl rfl) ?_
   rintro _ ⟨_, _, _, ⟨rfl, rfl, rfl⟩, rfl⟩
   refine Tops_step rfl (OpT_move rfl rfl rfl rfl) ?_
   refine Tops_step rfl (OpT_extract rfl rfl rfl rfl rfl) ?_
   refine Tops_step rfl (OpT_extract rfl rfl rfl rfl rfl) ?_
   refine Tops_step rfl (OpT_fieldC rfl rfl rfl rfl fldF27x4) ?_
   refine Tops_step rfl (OpT_storeC (cs' := [vB packed, vI np1, vU64 align1.1, vU64 align2.1, vU64 align3.1]) rfl rfl rfl rfl tyF22 (i := 1) rfl rfl rfl (one_of rfl) rfl) ?_
   refine Tops_step rfl (OpT_assign rfl rfl rfl rfl) ?_
   refine Tops_nil (Tk_wkS (fr' := [(2, some (vU64 base)), (6, some (.pointer (some ⟨b1, 0, none⟩))), (9, some (.pointer (some ⟨b2, 0, none⟩))), (10, some (vU64 parts1.1)), (11, some (vU64 parts1.2.1)), (12, some (vU64 parts1.2.2)), (14, some (vI align1.2)), (15, some (vI align2.2)), (16, some (vI align3.2))]) (own' := [some (cellsR b1 27 [vB false, vI (0 : Int), vU64 (0 : UInt64), vU64 (0 : UInt64), vU64 (0 : UInt64)]), some (cellsR b2 27 [vB packed, vI np1, vU64 align1.1, vU64 align2.1, vU64 align3.1])]) (shr' := []) [2, 6, 9, 10, 11, 12, 14, 15, 16] [0, 1] [] rfl rfl rfl rfl ?_)
   refine Tk_seq (Tk_seq (Tk_region (Tops_step rfl (OpT_move rfl rfl rfl rfl) ?_)))
   refine Tops_step rfl (OpT_bin rfl rfl rfl rfl rfl (bin_neq_i (a := align1.2) (b := (0 : Int)))) ?_
   refine Tops_step rfl (OpT_move rfl rfl rfl rfl) ?_
   rcases Bool.eq_false_or_eq_true (align1.2 != (0 : Int)) with hg2 | hg2
   ·replace h := br_t hg2 h
    refine Tops_no rfl rfl (congrArg (fun b => some (Value.bool b)) hg2) rfl rfl ?_
    refine Tops_no rfl rfl (congrArg (fun b => some (Value.bool b)) hg2) rfl rfl ?_
    refine Tops_step rfl (OpT_pickT rfl rfl rfl (congrArg (fun b => some (Value.bool b)) hg2) rfl) ?_
    refine Tops_step rfl (OpT_move rfl rfl rfl rfl) ?_
    refine Tops_no rfl rfl rfl rfl rfl ?_
    refine Tops_no rfl rfl rfl rfl rfl ?_
    refine Tops_step rfl (OpT_pickT rfl rfl rfl rfl rfl) ?_
    refine Tops_step rfl (OpT_move rfl rfl rfl rfl) ?_
    refine Tops_no rfl rfl rfl rfl rfl ?_
    refine Tops_no rfl rfl rfl rfl rfl ?_
    refine Tops_no rfl rfl rfl rfl rfl ?_
    refine Tops_no rfl rfl rfl rfl rfl ?_
    refine Tops_no rfl rfl rfl rfl rfl ?_
    refine Tops_no rfl rfl rfl rfl rfl ?_
    refine Tops_no rfl rfl rfl rfl rfl ?_
    refine Tops_step rfl (OpT_pickT rfl rfl rfl rfl rfl) ?_
    refine Tops_step rfl (OpT_move rfl rfl rfl rfl) ?_
    refine Tops_no rfl rfl rfl rfl rfl ?_
    refine Tops_no rfl rfl rfl rfl rfl ?_
    refine Tops_no rfl rfl rfl rfl rfl ?_
    refine Tops_no rfl rfl rfl rfl rfl ?_
    refine Tops_no rfl rfl rfl rfl rfl ?_
    refine Tops_no rfl rfl rfl rfl rfl ?_
    refine Tops_no rfl rfl rfl rfl rfl ?_
    refine Tops_step rfl (OpT_pickT rfl rfl rfl rfl rfl) ?_
    refine Tops_step rfl (OpT_move rfl rfl rfl rfl) ?_
    refine Tops_no rfl rfl rfl rfl rfl ?_
    refine Tops_no rfl rfl rfl rfl rfl ?_
    refine Tops_no rfl rfl rfl rfl rfl ?_
    refine Tops_no rfl rfl rfl rfl rfl ?_
    refine Tops_no rfl rfl rfl rfl rfl ?_
    refine Tops_no rfl rfl rfl rfl rfl ?_
    refine Tops_no rfl rfl rfl rfl rfl ?_
    refine Tops_no rfl rfl rfl rfl rfl ?_
    refine Tops_step rfl (OpT_pickT rfl rfl rfl rfl rfl) ?_
    refine Tops_step rfl (OpT_move rfl rfl rfl rfl) ?_
    refine Tops_no rfl rfl rfl rfl rfl ?_
    refine Tops_no rfl rfl rfl rfl rfl ?_
    refine Tops_no rfl rfl rfl rfl rfl ?_
    refine Tops_step rfl (OpT_pickT rfl rfl rfl rfl rfl) ?_
    refine Tops_nil (Tk_wkS (fr' := [(2, some (vU64 base)), (6, some (.pointer (some ⟨b1, 0, none⟩))), (9, some (.pointer (some ⟨b2, 0, none⟩))), (12, some (vU64 parts1.2.2)), (97, some (vB true))]) (own' := [some (cellsR b1 27 [vB false, vI (0 : Int), vU64 (0 : UInt64), vU64 (0 : UInt64), vU64 (0 : UInt64)]), some (cellsR b2 27 [vB packed, vI np1, vU64 align1.1, vU64 align2.1, vU64 align3.1])]) (shr' := []) [2, 6, 9, 12, 97] [0, 1] [] rfl rfl rfl rfl ?_)
    refine Tk_condT rfl ?_
    refine Tk_seq (Tk_region (Tops_step rfl (OpT_build (v := .agg #[vB false, vI (0 : Int), vU64 (0 : UInt64), vU64 (0 : UInt64), vU64 (0 : UInt64)]) rfl rfl rfl rfl (bldV (by kernel_rfl))) ?_))
    refine Tops_step rfl (OpT_storeC (cs' := [vB false, vI (0 : Int), vU64 (0 : UInt64), vU64 (0 : UInt64), vU64 (0 : UInt64)]) rfl rfl rfl rfl tyF27 (i := 0) rfl rfl rfl (one_of rfl) rfl) ?_
    refine Tops_step rfl (OpT_assign rfl rfl rfl rfl) ?_
    refine Tops_step rfl (OpT_assign rfl rfl rfl rfl) ?_
    refine Tops_nil (Tk_wkS (fr' := [(6, some (.pointer (some ⟨b1, 0, none⟩))), (7, some (vU64 (0 : UInt64))), (8, some (vI (2 : Int)))]) (own' := [some (cellsR b1 27 [vB false, vI (0 : Int), vU64 (0 : UInt64), vU64 (0 : UInt64), vU64 (0 : UInt64)])]) (shr' := []) [6, 7, 8] [0] [] rfl rfl rfl rfl ?_)
    obtain rfl := Option.some.inj h
    exact Tk_retV rfl rfl (resA (vs := [.agg #[vB false, vI (0 : Int), vU64 (0 : UInt64), vU64 (0 : UInt64), vU64 (0 : UInt64)], vU64 (0 : UInt64), vI (2 : Int)]) rfl ⟨⟨_, 0, _, _, _, rfl, rfl, .inl ⟨tyF27, rfl, rfl⟩⟩, rfl, rfl, trivial⟩) [] [] rfl rfl rfl ⟨rfl, rfl, rfl⟩
   ·replace h := br_f hg2 h
    refine Tops_yes rfl rfl (congrArg (fun b => some (Value.bool b)) hg2) (OpT_move rfl rfl rfl rfl) ?_
    rintro _ rfl
    refine Tops_yes rfl rfl (congrArg (fun b => some (Value.bool b)) hg2) (OpT_bin rfl rfl rfl rfl rfl (bin_neq_i (a := align2.2) (b := (0 : Int)))) ?_
    rintro _ rfl
    refine Tops_step rfl (OpT_pickF rfl rfl rfl (congrArg (fun b => some (Value.bool b)) hg2) rfl) ?_
    refine Tops_step rfl (OpT_move rfl rfl rfl rfl) ?_
    rcases Bool.eq_false_or_eq_true (align2.2 != (0 : Int)) with hg3 | hg3
    ·replace h := br_t hg3 h
     refine Tops_no rfl rfl (congrArg (fun b => some (Value.bool b)) hg3) rfl rfl ?_
     refine Tops_no rfl rfl (congrArg (fun b => some (Value.bool b)) hg3) rfl rfl ?_
     refine Tops_step rfl (OpT_pickT rfl rfl rfl (congrArg (fun b => some (Value.bool b)) hg3) rfl) ?_
     refine Tops_step rfl (OpT_move rfl rfl rfl rfl) ?_
     refine Tops_no rfl rfl rfl rfl rfl ?_
     refine Tops_no rfl rfl rfl rfl rfl ?_
     refine Tops_no rfl rfl rfl rfl rfl ?_
     refine Tops_no rfl rfl rfl rfl rfl ?_
     refine Tops_no rfl rfl rfl rfl rfl ?_
     refine Tops_no rfl rfl rfl rfl rfl ?_
     refine Tops_no rfl rfl rfl rfl rfl ?_
     refine Tops_step rfl (OpT_pickT rfl rfl rfl rfl rfl) ?_
     refine Tops_step rfl (OpT_move rfl rfl rfl rfl) ?_
     refine Tops_no rfl rfl rfl rfl rfl ?_
     refine Tops_no rfl rfl rfl rfl rfl ?_
     refine Tops_no rfl rfl rfl rfl rfl ?_
     refine Tops_no rfl rfl rfl rfl rfl ?_
     refine Tops_no rfl rfl rfl rfl rfl ?_
     refine Tops_no rfl rfl rfl rfl rfl ?_
     refine Tops_no rfl rfl rfl rfl rfl ?_
     refine Tops_step rfl (OpT_pickT rfl rfl rfl rfl rfl) ?_
     refine Tops_step rfl (OpT_move rfl rfl rfl rfl) ?_
     refine Tops_no rfl rfl rfl rfl rfl ?_
     refine Tops_no rfl rfl rfl rfl rfl ?_
     refine Tops_no rfl rfl rfl rfl rfl ?_
     refine Tops_no rfl rfl rfl rfl rfl ?_
     refine Tops_no rfl rfl rfl rfl rfl ?_
     refine Tops_no rfl rfl rfl rfl rfl ?_
     refine Tops_no rfl rfl rfl rfl rfl ?_
     refine Tops_no rfl rfl rfl rfl rfl ?_
     refine Tops_step rfl (OpT_pickT rfl rfl rfl rfl rfl) ?_
     refine Tops_step rfl (OpT_move rfl rfl rfl rfl) ?_
     refine Tops_no rfl rfl rfl rfl rfl ?_
     refine Tops_no rfl rfl rfl rfl rfl ?_
     refine Tops_no rfl rfl rfl rfl rfl ?_
     refine Tops_step rfl (OpT_pickT rfl rfl rfl rfl rfl) ?_
     refine Tops_nil (Tk_wkS (fr' := [(2, some (vU64 base)), (6, some (.pointer (some ⟨b1, 0, none⟩))), (9, some (.pointer (some ⟨b2, 0, none⟩))), (12, some (vU64 parts1.2.2)), (97, some (vB true))]) (own' := [some (cellsR b1 27 [vB false, vI (0 : Int), vU64 (0 : UInt64), vU64 (0 : UInt64), vU64 (0 : UInt64)]), some (cellsR b2 27 [vB packed, vI np1, vU64 align1.1, vU64 align2.1, vU64 align3.1])]) (shr' := []) [2, 6, 9, 12, 97] [0, 1] [] rfl rfl rfl rfl ?_)
     refine Tk_condT rfl ?_
     refine Tk_seq (Tk_region (Tops_step rfl (OpT_build (v := .agg #[vB false, vI (0 : Int), vU64 (0 : UInt64), vU64 (0 : UInt64), vU64 (0 : UInt64)]) rfl rfl rfl rfl (bldV (by kernel_rfl))) ?_))
     refine Tops_step rfl (OpT_storeC (cs' := [vB false, vI (0 : Int), vU64 (0 : UInt64), vU64 (0 : UInt64), vU64 (0 : UInt64)]) rfl rfl rfl rfl tyF27 (i := 0) rfl rfl rfl (one_of rfl) rfl) ?_
     refine Tops_step rfl (OpT_assign rfl rfl rfl rfl) ?_
     refine Tops_step rfl (OpT_assign rfl rfl rfl rfl) ?_
     refine Tops_nil (Tk_wkS (fr' := [(6, some (.pointer (some ⟨b1, 0, none⟩))), (7, some (vU64 (0 : UInt64))), (8, some (vI (2 : Int)))]) (own' := [some (cellsR b1 27 [vB false, vI (0 : Int), vU64 (0 : UInt64), vU64 (0 : UInt64), vU64 (0 : UInt64)])]) (shr' := []) [6, 7, 8] [0] [] rfl rfl rfl rfl ?_)
     obtain rfl := Option.some.inj h
     exact Tk_retV rfl rfl (resA (vs := [.agg #[vB false, vI (0 : Int), vU64 (0 : UInt64), vU64 (0 : UInt64), vU64 (0 : UInt64)], vU64 (0 : UInt64), vI (2 : Int)]) rfl ⟨⟨_, 0, _, _, _, rfl, rfl, .inl ⟨tyF27, rfl, rfl⟩⟩, rfl, rfl, trivial⟩) [] [] rfl rfl rfl ⟨rfl, rfl, rfl⟩
    ·replace h := br_f hg3 h
     refine Tops_yes rfl rfl (congrArg (fun b => some (Value.bool b)) hg3) (OpT_move rfl rfl rfl rfl) ?_
     rintro _ rfl
     refine Tops_yes rfl rfl (congrArg (fun b => some (Value.bool b)) hg3) (OpT_bin rfl rfl rfl rfl rfl (bin_neq_i (a := align3.2) (b := (0 : Int)))) ?_
     rintro _ rfl
     refine Tops_step rfl (OpT_pickF rfl rfl rfl (congrArg (fun b => some (Value.bool b)) hg3) rfl) ?_
     refine Tops_step rfl (OpT_move rfl rfl rfl rfl) ?_
     rcases Bool.eq_false_or_eq_true (align3.2 != (0 : Int)) with hg4 | hg4
     ·replace h := br_t hg4 h
      refine Tops_no rfl rfl (congrArg (fun b => some (Value.bool b)) hg4) rfl rfl ?_
      refine Tops_no rfl rfl (congrArg (fun b => some (Value.bool b)) hg4) rfl rfl ?_
      refine Tops_no rfl rfl (congrArg (fun b => some (Value.bool b)) hg4) rfl rfl ?_
      refine Tops_no rfl rfl (congrArg (fun b => some (Value.bool b)) hg4) rfl rfl ?_
      refine Tops_no rfl rfl (congrArg (fun b => some (Value.bool b)) hg4) rfl rfl ?_
      refine Tops_no rfl rfl (congrArg (fun b => some (Value.bool b)) hg4) rfl rfl ?_
      refine Tops_no rfl rfl (congrArg (fun b => some (Value.bool b)) hg4) rfl rfl ?_
      refine Tops_step rfl (OpT_pickT rfl rfl rfl (congrArg (fun b => some (Value.bool b)) hg4) rfl) ?_
      refine Tops_step rfl (OpT_move rfl rfl rfl rfl) ?_
      refine Tops_no rfl rfl rfl rfl rfl ?_
      refine Tops_no rfl rfl rfl rfl rfl ?_
      refine Tops_no rfl rfl rfl rfl rfl ?_
      refine Tops_no rfl rfl rfl rfl rfl ?_
      refine Tops_no rfl rfl rfl rfl rfl ?_
      refine Tops_no rfl rfl rfl rfl rfl ?_
      refine Tops_no rfl rfl rfl rfl rfl ?_
      refine Tops_step rfl (OpT_pickT rfl rfl rfl rfl rfl) ?_
      refine Tops_step rfl (OpT_move rfl rfl rfl rfl) ?_
      refine Tops_no rfl rfl rfl rfl rfl ?_
      refine Tops_no rfl rfl rfl rfl rfl ?_
      refine Tops_no rfl rfl rfl rfl rfl ?_
      refine Tops_no rfl rfl rfl rfl rfl ?_
      refine Tops_no rfl rfl rfl rfl rfl ?_
      refine Tops_no rfl rfl rfl rfl rfl ?_
      refine Tops_no rfl rfl rfl rfl rfl ?_
      refine Tops_no rfl rfl rfl rfl rfl ?_
      refine Tops_step rfl (OpT_pickT rfl rfl rfl rfl rfl) ?_
      refine Tops_step rfl (OpT_move rfl rfl rfl rfl) ?_
      refine Tops_no rfl rfl rfl rfl rfl ?_
      refine Tops_no rfl rfl rfl rfl rfl ?_
      refine Tops_no rfl rfl rfl rfl rfl ?_
      refine Tops_step rfl (OpT_pickT rfl rfl rfl rfl rfl) ?_
      refine Tops_nil (Tk_wkS (fr' := [(2, some (vU64 base)), (6, some (.pointer (some ⟨b1, 0, none⟩))), (9, some (.pointer (some ⟨b2, 0, none⟩))), (12, some (vU64 parts1.2.2)), (97, some (vB true))]) (own' := [some (cellsR b1 27 [vB false, vI (0 : Int), vU64 (0 : UInt64), vU64 (0 : UInt64), vU64 (0 : UInt64)]), some (cellsR b2 27 [vB packed, vI np1, vU64 align1.1, vU64 align2.1, vU64 align3.1])]) (shr' := []) [2, 6, 9, 12, 97] [0, 1] [] rfl rfl rfl rfl ?_)
      refine Tk_condT rfl ?_
      refine Tk_seq (Tk_region (Tops_step rfl (OpT_build (v := .agg #[vB false, vI (0 : Int), vU64 (0 : UInt64), vU64 (0 : UInt64), vU64 (0 : UInt64)]) rfl rfl rfl rfl (bldV (by kernel_rfl))) ?_))
      refine Tops_step rfl (OpT_storeC (cs' := [vB false, vI (0 : Int), vU64 (0 : UInt64), vU64 (0 : UInt64), vU64 (0 : UInt64)]) rfl rfl rfl rfl tyF27 (i := 0) rfl rfl rfl (one_of rfl) rfl) ?_
      refine Tops_step rfl (OpT_assign rfl rfl rfl rfl) ?_
      refine Tops_step rfl (OpT_assign rfl rfl rfl rfl) ?_
      refine Tops_nil (Tk_wkS (fr' := [(6, some (.pointer (some ⟨b1, 0, none⟩))), (7, some (vU64 (0 : UInt64))), (8, some (vI (2 : Int)))]) (own' := [some (cellsR b1 27 [vB false, vI (0 : Int), vU64 (0 : UInt64), vU64 (0 : UInt64), vU64 (0 : UInt64)])]) (shr' := []) [6, 7, 8] [0] [] rfl rfl rfl rfl ?_)
      obtain rfl := Option.some.inj h
      exact Tk_retV rfl rfl (resA (vs := [.agg #[vB false, vI (0 : Int), vU64 (0 : UInt64), vU64 (0 : UInt64), vU64 (0 : UInt64)], vU64 (0 : UInt64), vI (2 : Int)]) rfl ⟨⟨_, 0, _, _, _, rfl, rfl, .inl ⟨tyF27, rfl, rfl⟩⟩, rfl, rfl, trivial⟩) [] [] rfl rfl rfl ⟨rfl, rfl, rfl⟩
     ·replace h := br_f hg4 h
      refine Tops_yes rfl rfl (congrArg (fun b => some (Value.bool b)) hg4) (OpT_fieldC rfl rfl rfl rfl fldF27x2) ?_
      rintro _ rfl
      refine Tops_yes rfl rfl (congrArg (fun b => some (Value.bool b)) hg4) (OpT_loadC rfl rfl rfl rfl tyF22 (i := 1) rfl rfl) ?_
      rintro _ rfl
      refine Tops_yes rfl rfl (congrArg (fun b => some (Value.bool b)) hg4) (OpT_move rfl rfl rfl rfl) ?_
      rintro _ rfl
      refine Tops_yes rfl rfl (congrArg (fun b => some (Value.bool b)) hg4) (OpT_bin rfl rfl rfl rfl rfl (bin_add_u64 (a := align1.1) (b := parts1.1))) ?_
      rintro _ rfl
      refine Tops_yes rfl rfl (congrArg (fun b => some (Value.bool b)) hg4) (OpT_fieldC rfl rfl rfl rfl fldF27x2) ?_
      rintro _ rfl
      refine Tops_yes rfl rfl (congrArg (fun b => some (Value.bool b)) hg4) (OpT_loadC rfl rfl rfl rfl tyF22 (i := 1) rfl rfl) ?_
      rintro _ rfl
      refine Tops_yes rfl rfl (congrArg (fun b => some (Value.bool b)) hg4) (OpT_bin rfl rfl rfl rfl rfl (bin_lss_u64 (a := align1.1 + parts1.1) (b := align1.1))) ?_
      rintro _ rfl
      refine Tops_step rfl (OpT_pickF rfl rfl rfl (congrArg (fun b => some (Value.bool b)) hg4) rfl) ?_
      refine Tops_step rfl (OpT_move rfl rfl rfl rfl) ?_
      rcases Bool.eq_false_or_eq_true (decide ((align1.1 + parts1.1) < align1.1)) with hg5 | hg5
      ·replace h := br_t hg5 h
       refine Tops_no rfl rfl (congrArg (fun b => some (Value.bool b)) hg5) rfl rfl ?_
       refine Tops_no rfl rfl (congrArg (fun b => some (Value.bool b)) hg5) rfl rfl ?_
       refine Tops_no rfl rfl (congrArg (fun b => some (Value.bool b)) hg5) rfl rfl ?_
       refine Tops_no rfl rfl (congrArg (fun b => some (Value.bool b)) hg5) rfl rfl ?_
       refine Tops_no rfl rfl (congrArg (fun b => some (Value.bool b)) hg5) rfl rfl ?_
       refine Tops_no rfl rfl (congrArg (fun b => some (Value.bool b)) hg5) rfl rfl ?_
       refine Tops_no rfl rfl (congrArg (fun b => some (Value.bool b)) hg5) rfl rfl ?_
       refine Tops_step rfl (OpT_pickT rfl rfl rfl (congrArg (fun b => some (Value.bool b)) hg5) rfl) ?_
       refine Tops_step rfl (OpT_move rfl rfl rfl rfl) ?_
       refine Tops_no rfl rfl rfl rfl rfl ?_
       refine Tops_no rfl rfl rfl rfl rfl ?_
       refine Tops_no rfl rfl rfl rfl rfl ?_
       refine Tops_no rfl rfl rfl rfl rfl ?_
       refine Tops_no rfl rfl rfl rfl rfl ?_
       refine Tops_no rfl rfl rfl rfl rfl ?_
       refine Tops_no rfl rfl rfl rfl rfl ?_
       refine Tops_no rfl rfl rfl rfl rfl ?_
       refine Tops_step rfl (OpT_pickT rfl rfl rfl rfl rfl) ?_
       refine Tops_step rfl (OpT_move rfl rfl rfl rfl) ?_
       refine Tops_no rfl rfl rfl rfl rfl ?_
       refine Tops_no rfl rfl rfl rfl rfl ?_
       refine Tops_no rfl rfl rfl rfl rfl ?_
       refine Tops_step rfl (OpT_pickT rfl rfl rfl rfl rfl) ?_
       refine Tops_nil (Tk_wkS (fr' := [(2, some (vU64 base)), (6, some (.pointer (some ⟨b1, 0, none⟩))), (9, some (.pointer (some ⟨b2, 0, none⟩))), (12, some (vU64 parts1.2.2)), (97, some (vB true))]) (own' := [some (cellsR b1 27 [vB false, vI (0 : Int), vU64 (0 : UInt64), vU64 (0 : UInt64), vU64 (0 : UInt64)]), some (cellsR b2 27 [vB packed, vI np1, vU64 align1.1, vU64 align2.1, vU64 align3.1])]) (shr' := []) [2, 6, 9, 12, 97] [0, 1] [] rfl rfl rfl rfl ?_)
       refine Tk_condT rfl ?_
       refine Tk_seq (Tk_region (Tops_step rfl (OpT_build (v := .agg #[vB false, vI (0 : Int), vU64 (0 : UInt64), vU64 (0 : UInt64), vU64 (0 : UInt64)]) rfl rfl rfl rfl (bldV (by kernel_rfl))) ?_))
       refine Tops_step rfl (OpT_storeC (cs' := [vB false, vI (0 : Int), vU64 (0 : UInt64), vU64 (0 : UInt64), vU64 (0 : UInt64)]) rfl rfl rfl rfl tyF27 (i := 0) rfl rfl rfl (one_of rfl) rfl) ?_
       refine Tops_step rfl (OpT_assign rfl rfl rfl rfl) ?_
       refine Tops_step rfl (OpT_assign rfl rfl rfl rfl) ?_
       refine Tops_nil (Tk_wkS (fr' := [(6, some (.pointer (some ⟨b1, 0, none⟩))), (7, some (vU64 (0 : UInt64))), (8, some (vI (2 : Int)))]) (own' := [some (cellsR b1 27 [vB false, vI (0 : Int), vU64 (0 : UInt64), vU64 (0 : UInt64), vU64 (0 : UInt64)])]) (shr' := []) [6, 7, 8] [0] [] rfl rfl rfl rfl ?_)
       obtain rfl := Option.some.inj h
       exact Tk_retV rfl rfl (resA (vs := [.agg #[vB false, vI (0 : Int), vU64 (0 : UInt64), vU64 (0 : UInt64), vU64 (0 : UInt64)], vU64 (0 : UInt64), vI (2 : Int)]) rfl ⟨⟨_, 0, _, _, _, rfl, rfl, .inl ⟨tyF27, rfl, rfl⟩⟩, rfl, rfl, trivial⟩) [] [] rfl rfl rfl ⟨rfl, rfl, rfl⟩
      ·replace h := br_f hg5 h
       refine Tops_yes rfl rfl (congrArg (fun b => some (Value.bool b)) hg5) (OpT_fieldC rfl rfl rfl rfl fldF27x3) ?_
       rintro _ rfl
       refine Tops_yes rfl rfl (congrArg (fun b => some (Value.bool b)) hg5) (OpT_loadC rfl rfl rfl rfl tyF22 (i := 1) rfl rfl) ?_
       rintro _ rfl
       refine Tops_yes rfl rfl (congrArg (fun b => some (Value.bool b)) hg5) (OpT_move rfl rfl rfl rfl) ?_
       rintro _ rfl
       refine Tops_yes rfl rfl (congrArg (fun b => some (Value.bool b)) hg5) (OpT_bin rfl rfl rfl rfl rfl (bin_add_u64 (a := align2.1) (b := parts1.2.1))) ?_
       rintro _ rfl
       refine Tops_yes rfl rfl (congrArg (fun b => some (Value.bool b)) hg5) (OpT_fieldC rfl rfl rfl rfl fldF27x3) ?_
       rintro _ rfl
       refine Tops_yes rfl rfl (congrArg (fun b => some (Value.bool b)) hg5) (OpT_loadC rfl rfl rfl rfl tyF22 (i := 1) rfl rfl) ?_
       rintro _ rfl
       refine Tops_yes rfl rfl (congrArg (fun b => some (Value.bool b)) hg5) (OpT_bin rfl rfl rfl rfl rfl (bin_lss_u64 (a := align2.1 + parts1.2.1) (b := align2.1))) ?_
       rintro _ rfl
       refine Tops_step rfl (OpT_pickF rfl rfl rfl (congrArg (fun b => some (Value.bool b)) hg5) rfl) ?_
       refine Tops_step rfl (OpT_move rfl rfl rfl rfl) ?_
       rcases Bool.eq_false_or_eq_true (decide ((align2.1 + parts1.2.1) < align2.1)) with hg6 | hg6
       ·replace h := br_t hg6 h
        refine Tops_no rfl rfl (congrArg (fun b => some (Value.bool b)) hg6) rfl rfl ?_
        refine Tops_no rfl rfl (congrArg (fun b => some (Value.bool b)) hg6) rfl rfl ?_
        refine Tops_no rfl rfl (congrArg (fun b => some (Value.bool b)) hg6) rfl rfl ?_
        refine Tops_no rfl rfl (congrArg (fun b => some (Value.bool b)) hg6) rfl rfl ?_
        refine Tops_no rfl rfl (congrArg (fun b => some (Value.bool b)) hg6) rfl rfl ?_
        refine Tops_no rfl rfl (congrArg (fun b => some (Value.bool b)) hg6) rfl rfl ?_
        refine Tops_no rfl rfl (congrArg (fun b => some (Value.bool b)) hg6) rfl rfl ?_
        refine Tops_no rfl rfl (congrArg (fun b => some (Value.bool b)) hg6) rfl rfl ?_
        refine Tops_step rfl (OpT_pickT rfl rfl rfl (congrArg (fun b => some (Value.bool b)) hg6) rfl) ?_
        refine Tops_step rfl (OpT_move rfl rfl rfl rfl) ?_
        refine Tops_no rfl rfl rfl rfl rfl ?_
        refine Tops_no rfl rfl rfl rfl rfl ?_
        refine Tops_no rfl rfl rfl rfl rfl ?_
        refine Tops_step rfl (OpT_pickT rfl rfl rfl rfl rfl) ?_
        refine Tops_nil (Tk_wkS (fr' := [(2, some (vU64 base)), (6, some (.pointer (some ⟨b1, 0, none⟩))), (9, some (.pointer (some ⟨b2, 0, none⟩))), (12, some (vU64 parts1.2.2)), (97, some (vB true))]) (own' := [some (cellsR b1 27 [vB false, vI (0 : Int), vU64 (0 : UInt64), vU64 (0 : UInt64), vU64 (0 : UInt64)]), some (cellsR b2 27 [vB packed, vI np1, vU64 align1.1, vU64 align2.1, vU64 align3.1])]) (shr' := []) [2, 6, 9, 12, 97] [0, 1] [] rfl rfl rfl rfl ?_)
        refine Tk_condT rfl ?_
        refine Tk_seq (Tk_region (Tops_step rfl (OpT_build (v := .agg #[vB false, vI (0 : Int), vU64 (0 : UInt64), vU64 (0 : UInt64), vU64 (0 : UInt64)]) rfl rfl rfl rfl (bldV (by kernel_rfl))) ?_))
        refine Tops_step rfl (OpT_storeC (cs' := [vB false, vI (0 : Int), vU64 (0 : UInt64), vU64 (0 : UInt64), vU64 (0 : UInt64)]) rfl rfl rfl rfl tyF27 (i := 0) rfl rfl rfl (one_of rfl) rfl) ?_
        refine Tops_step rfl (OpT_assign rfl rfl rfl rfl) ?_
        refine Tops_step rfl (OpT_assign rfl rfl rfl rfl) ?_
        refine Tops_nil (Tk_wkS (fr' := [(6, some (.pointer (some ⟨b1, 0, none⟩))), (7, some (vU64 (0 : UInt64))), (8, some (vI (2 : Int)))]) (own' := [some (cellsR b1 27 [vB false, vI (0 : Int), vU64 (0 : UInt64), vU64 (0 : UInt64), vU64 (0 : UInt64)])]) (shr' := []) [6, 7, 8] [0] [] rfl rfl rfl rfl ?_)
        obtain rfl := Option.some.inj h
        exact Tk_retV rfl rfl (resA (vs := [.agg #[vB false, vI (0 : Int), vU64 (0 : UInt64), vU64 (0 : UInt64), vU64 (0 : UInt64)], vU64 (0 : UInt64), vI (2 : Int)]) rfl ⟨⟨_, 0, _, _, _, rfl, rfl, .inl ⟨tyF27, rfl, rfl⟩⟩, rfl, rfl, trivial⟩) [] [] rfl rfl rfl ⟨rfl, rfl, rfl⟩
       ·replace h := br_f hg6 h
        refine Tops_yes rfl rfl (congrArg (fun b => some (Value.bool b)) hg6) (OpT_fieldC rfl rfl rfl rfl fldF27x4) ?_
        rintro _ rfl
        refine Tops_yes rfl rfl (congrArg (fun b => some (Value.bool b)) hg6) (OpT_loadC rfl rfl rfl rfl tyF22 (i := 1) rfl rfl) ?_
        rintro _ rfl
        refine Tops_yes rfl rfl (congrArg (fun b => some (Value.bool b)) hg6) (OpT_move rfl rfl rfl rfl) ?_
        rintro _ rfl
        refine Tops_yes rfl rfl (congrArg (fun b => some (Value.bool b)) hg6) (OpT_bin rfl rfl rfl rfl rfl (bin_sub_u64 (a := parts1.2.2) (b := (1 : UInt64)))) ?_
        rintro _ rfl
        refine Tops_yes rfl rfl (congrArg (fun b => some (Value.bool b)) hg6) (OpT_bin rfl rfl rfl rfl rfl (bin_add_u64 (a := align3.1) (b := parts1.2.2 - (1 : UInt64)))) ?_
        rintro _ rfl
        refine Tops_yes rfl rfl (congrArg (fun b => some (Value.bool b)) hg6) (OpT_fieldC rfl rfl rfl rfl fldF27x4) ?_
        rintro _ rfl
        refine Tops_yes rfl rfl (congrArg (fun b => some (Value.bool b)) hg6) (OpT_loadC rfl rfl rfl rfl tyF22 (i := 1) rfl rfl) ?_
        rintro _ rfl
        refine Tops_yes rfl rfl (congrArg (fun b => some (Value.bool b)) hg6) (OpT_bin rfl rfl rfl rfl rfl (bin_lss_u64 (a := align3.1 + (parts1.2.2 - (1 : UInt64))) (b := align3.1))) ?_
        rintro _ rfl
        refine Tops_step rfl (OpT_pickF rfl rfl rfl (congrArg (fun b => some (Value.bool b)) hg6) rfl) ?_
        refine Tops_step rfl (OpT_move rfl rfl rfl rfl) ?_
        rcases Bool.eq_false_or_eq_true (decide ((align3.1 + (parts1.2.2 - (1 : UInt64))) < align3.1)) with hg7 | hg7
        ·replace h := br_t hg7 h
         refine Tops_no rfl rfl (congrArg (fun b => some (Value.bool b)) hg7) rfl rfl ?_
         refine Tops_no rfl rfl (congrArg (fun b => some (Value.bool b)) hg7) rfl rfl ?_
         refine Tops_no rfl rfl (congrArg (fun b => some (Value.bool b)) hg7) rfl rfl ?_
         refine Tops_step rfl (OpT_pickT rfl rfl rfl (congrArg (fun b => some (Value.bool b)) hg7) rfl) ?_
         refine Tops_nil (Tk_wkS (fr' := [(2, some (vU64 base)), (6, some (.pointer (some ⟨b1, 0, none⟩))), (9, some (.pointer (some ⟨b2, 0, none⟩))), (12, some (vU64 parts1.2.2)), (97, some (vB true))]) (own' := [some (cellsR b1 27 [vB false, vI (0 : Int), vU64 (0 : UInt64), vU64 (0 : UInt64), vU64 (0 : UInt64)]), some (cellsR b2 27 [vB packed, vI np1, vU64 align1.1, vU64 align2.1, vU64 align3.1])]) (shr' := []) [2, 6, 9, 12, 97] [0, 1] [] rfl rfl rfl rfl ?_)
         refine Tk_condT rfl ?_
         refine Tk_seq (Tk_region (Tops_step rfl (OpT_build (v := .agg #[vB false, vI (0 : Int), vU64 (0 : UInt64), vU64 (0 : UInt64), vU64 (0 : UInt64)]) rfl rfl rfl rfl (bldV (by kernel_rfl))) ?_))
         refine Tops_step rfl (OpT_storeC (cs' := [vB false, vI (0 : Int), vU64 (0 : UInt64), vU64 (0 : UInt64), vU64 (0 : UInt64)]) rfl rfl rfl rfl tyF27 (i := 0) rfl rfl rfl (one_of rfl) rfl) ?_
         refine Tops_step rfl (OpT_assign rfl rfl rfl rfl) ?_
         refine Tops_step rfl (OpT_assign rfl rfl rfl rfl) ?_
         refine Tops_nil (Tk_wkS (fr' := [(6, some (.pointer (some ⟨b1, 0, none⟩))), (7, some (vU64 (0 : UInt64))), (8, some (vI (2 : Int)))]) (own' := [some (cellsR b1 27 [vB false, vI (0 : Int), vU64 (0 : UInt64), vU64 (0 : UInt64), vU64 (0 : UInt64)])]) (shr' := []) [6, 7, 8] [0] [] rfl rfl rfl rfl ?_)
         obtain rfl := Option.some.inj h
         exact Tk_retV rfl rfl (resA (vs := [.agg #[vB false, vI (0 : Int), vU64 (0 : UInt64), vU64 (0 : UInt64), vU64 (0 : UInt64)], vU64 (0 : UInt64), vI (2 : Int)]) rfl ⟨⟨_, 0, _, _, _, rfl, rfl, .inl ⟨tyF27, rfl, rfl⟩⟩, rfl, rfl, trivial⟩) [] [] rfl rfl rfl ⟨rfl, rfl, rfl⟩
        ·replace h := br_f hg7 h
         refine Tops_yes rfl rfl (congrArg (fun b => some (Value.bool b)) hg7) (OpT_loadCA (vs := [vB packed, vI np1, vU64 align1.1, vU64 align2.1, vU64 align3.1]) rfl rfl rfl rfl tyF27 (i := 1) rfl rfl rfl) ?_
         rintro _ rfl
         obtain ⟨check1, hx5, h⟩ := ob_e h
         refine Tops_yes rfl rfl (congrArg (fun b => some (Value.bool b)) hg7) (OpT_call (w_ref_Check04 hx5) [] [] rfl rfl rfl rfl rfl callee20 rfl rfl rfl rfl) ?_
         rintro _ ⟨_, _, _, ⟨rfl, rfl, rfl⟩, rfl⟩
         refine Tops_yes rfl rfl (congrArg (fun b => some (Value.bool b)) hg7) (OpT_bin rfl rfl rfl rfl rfl (bin_neq_i (a := check1) (b := (0 : Int)))) ?_
         rintro _ rfl
         refine Tops_step rfl (OpT_pickF rfl rfl rfl (congrArg (fun b => some (Value.bool b)) hg7) rfl) ?_
         refine Tops_nil (Tk_wkS (fr' := [(2, some (vU64 base)), (6, some (.pointer (some ⟨b1, 0, none⟩))), (9, some (.pointer (some ⟨b2, 0, none⟩))), (12, some (vU64 parts1.2.2)), (97, some (vB (check1 != (0 : Int))))]) (own' := [some (cellsR b1 27 [vB false, vI (0 : Int), vU64 (0 : UInt64), vU64 (0 : UInt64), vU64 (0 : UInt64)]), some (cellsR b2 27 [vB packed, vI np1, vU64 align1.1, vU64 align2.1, vU64 align3.1])]) (shr' := []) [2, 6, 9, 12, 97] [0, 1] [] rfl rfl rfl rfl ?_)
         rcases Bool.eq_false_or_eq_true (check1 != (0 : Int)) with hg8 | hg8
         ·replace h := br_t hg8 h
          refine Tk_condT (congrArg (fun b => some (Value.bool b)) hg8) ?_
          refine Tk_seq (Tk_region (Tops_step rfl (OpT_build (v := .agg #[vB false, vI (0 : Int), vU64 (0 : UInt64), vU64 (0 : UInt64), vU64 (0 : UInt64)]) rfl rfl rfl rfl (bldV (by kernel_rfl))) ?_))
          refine Tops_step rfl (OpT_storeC (cs' := [vB false, vI (0 : Int), vU64 (0 : UInt64), vU64 (0 : UInt64), vU64 (0 : UInt64)]) rfl rfl rfl rfl tyF27 (i := 0) rfl rfl rfl (one_of rfl) rfl) ?_
          refine Tops_step rfl (OpT_assign rfl rfl rfl rfl) ?_
          refine Tops_step rfl (OpT_assign rfl rfl rfl rfl) ?_
          refine Tops_nil (Tk_wkS (fr' := [(6, some (.pointer (some ⟨b1, 0, none⟩))), (7, some (vU64 (0 : UInt64))), (8, some (vI (2 : Int)))]) (own' := [some (cellsR b1 27 [vB false, vI (0 : Int), vU64 (0 : UInt64), vU64 (0 : UInt64), vU64 (0 : UInt64)])]) (shr' := []) [6, 7, 8] [0] [] rfl rfl rfl rfl ?_)
          obtain rfl := Option.some.inj h
          exact Tk_retV rfl rfl (resA (vs := [.agg #[vB false, vI (0 : Int), vU64 (0 : UInt64), vU64 (0 : UInt64), vU64 (0 : UInt64)], vU64 (0 : UInt64), vI (2 : Int)]) rfl ⟨⟨_, 0, _, _, _, rfl, rfl, .inl ⟨tyF27, rfl, rfl⟩⟩, rfl, rfl, trivial⟩) [] [] rfl rfl rfl ⟨rfl, rfl, rfl⟩
         ·replace h := br_f hg8 h
          refine Tk_condF (congrArg (fun b => some (Value.bool b)) hg8) ?_
          refine Tk_skip (Tk_seq (Tk_drawT (by kernel_rfl) ?_))
          refine TA_tb [0, 0, 2, 0, 14, 0, 62, 1, 255, 511] (by kernel_rfl) fun htb => ?_
          refine TA_wkS (fr' := [(2, some (vU64 base)), (6, some (.pointer (some ⟨b1, 0, none⟩))), (9, some (.pointer (some ⟨b2, 0, none⟩))), (12, some (vU64 parts1.2.2))]) (own' := [some (cellsR b1 27 [vB false, vI (0 : Int), vU64 (0 : UInt64), vU64 (0 : UInt64), vU64 (0 : UInt64)]), some (cellsR b2 27 [vB packed, vI np1, vU64 align1.1, vU64 align2.1, vU64 align3.1])]) (shr' := []) [2, 6, 9, 12] [0, 1] [] rfl rfl rfl rfl ?_
          refine TA_seg (lo := 0) (hi := 8) htb rfl rfl (by kernel_rfl) (fun c L a w => Sat c ⟨[(2, some (vU64 base)), (6, some (.pointer (some ⟨b1, 0, none⟩))), (9, some (.pointer (some ⟨b2, 0, none⟩))), (12, some (vU64 parts1.2.2)), (99, bif L 0 then some (.agg #[vB packed, vI np1, vU64 align1.1, vU64 align2.1, vU64 align3.1]) else none), (100, bif L 1 then some (.pointer (some ⟨b2, 4, none⟩)) else none), (101, bif L 2 then some (vU64 align3.1) else none), (102, bif L 3 then some (vU64 parts1.2.2) else none), (103, bif L 4 then some (vU64 (align3.1 + parts1.2.2)) else none), (104, bif L 5 then some (vU64 base) else none), (105, bif L 6 then some (vU64 ((align3.1 + parts1.2.2) - base)) else none)], [(bif L 7 then some (cellsR b1 27 [vB packed, vI np1, vU64 align1.1, vU64 align2.1, vU64 align3.1]) else some (cellsR b1 27 [vB false, vI (0 : Int), vU64 (0 : UInt64), vU64 (0 : UInt64), vU64 (0 : UInt64)]) : Option Res), (some (cellsR b2 27 [vB packed, vI np1, vU64 align1.1, vU64 align2.1, vU64 align3.1]) : Option Res)], []⟩ a w) [([], [7]), ([], [2, 4, 6]), ([1], [4, 6]), ([], [4, 6]), ([1, 2, 3], [6]), ([], [6]), ([1, 2, 3, 4, 5], []), ([0], [])] rfl (by kernel_rfl) ?_ (steps_cons ?_ (steps_cons ?_ (steps_cons ?_ (steps_cons ?_ (steps_cons ?_ (steps_cons ?_ (steps_cons ?_ (steps_cons ?_ (steps_nil))))))))) ?_
          ·intro a w hs
           exact hs.startF [99, 100, 101, 102, 103, 104, 105] [0, 1] [] rfl rfl rfl rfl
          ·intro L a w hv K Q hK
           have hs := hv
           refine wpOp_go rfl rfl hs (OpT_loadCA (vs := [vB packed, vI np1, vU64 align1.1, vU64 align2.1, vU64 align3.1]) rfl rfl rfl rfl tyF27 (i := 1) rfl rfl rfl) ?_
           rintro _ rfl a' w' hs'
           exact hK a' w' (hs'.putF (i := 4) rfl [0, 1] [] rfl rfl rfl rfl)
          ·intro L a w hv K Q hK
           have hs := hv
           refine wpOp_go rfl rfl hs (OpT_fieldC rfl rfl rfl rfl fldF27x4) ?_
           rintro _ rfl a' w' hs'
           exact hK a' w' (hs'.putF (i := 5) rfl [0, 1] [] rfl rfl rfl rfl)
          ·intro L a w hv K Q hK
           have hs := hv
           refine wpOp_go rfl rfl hs (OpT_loadC rfl rfl rfl rfl tyF22 (i := 1) rfl rfl) ?_
           rintro _ rfl a' w' hs'
           exact hK a' w' (hs'.putF (i := 6) rfl [0, 1] [] rfl rfl rfl rfl)
          ·intro L a w hv K Q hK
           have hs := hv
           refine wpOp_go rfl rfl hs (OpT_move rfl rfl rfl rfl) ?_
           rintro _ rfl a' w' hs'
           exact hK a' w' (hs'.putF (i := 7) rfl [0, 1] [] rfl rfl rfl rfl)
          ·intro L a w hv K Q hK
           have hs := hv
           refine wpOp_go rfl rfl hs (OpT_bin rfl rfl rfl rfl rfl (bin_add_u64 (a := align3.1) (b := parts1.2.2))) ?_
           rintro _ rfl a' w' hs'
           exact hK a' w' (hs'.putF (i := 8) rfl [0, 1] [] rfl rfl rfl rfl)
          ·intro L a w hv K Q hK
           have hs := hv
           refine wpOp_go rfl rfl hs (OpT_move rfl rfl rfl rfl) ?_
           rintro _ rfl a' w' hs'
           exact hK a' w' (hs'.putF (i := 9) rfl [0, 1] [] rfl rfl rfl rfl)
          ·intro L a w hv K Q hK
           have hs := hv
           refine wpOp_go rfl rfl hs (OpT_bin rfl rfl rfl rfl rfl (bin_sub_u64 (a := align3.1 + parts1.2.2) (b := base))) ?_
           rintro _ rfl a' w' hs'
           exact hK a' w' (hs'.putF (i := 10) rfl [0, 1] [] rfl rfl rfl rfl)
          ·intro L a w hv K Q hK
           have hs := hv
           refine wpOp_go rfl rfl hs (OpT_storeC (cs' := [vB packed, vI np1, vU64 align1.1, vU64 align2.1, vU64 align3.1]) rfl rfl rfl rfl tyF27 (i := 0) rfl rfl rfl (one_of rfl) rfl) ?_
           rintro _ rfl a' w' hs'
           exact hK a' w' (hs'.sameF [0, 1] [] rfl rfl rfl rfl)
          ·intro L a w hL hv
           rw [allTrue hL] at hv
           have hs := hv
           refine (show TA _ _ _ 8 ⟨[(6, some (.pointer (some ⟨b1, 0, none⟩))), (105, some (vU64 ((align3.1 + parts1.2.2) - base)))], [some (cellsR b1 27 [vB packed, vI np1, vU64 align1.1, vU64 align2.1, vU64 align3.1])], []⟩ from ?_) a w (hs.wkS [6, 105] [0] [] rfl rfl rfl rfl)
           clear hs hL
           refine TA_step htb (by kernel_rfl) rfl rfl (OpT_assign rfl rfl rfl rfl) ?_
           refine TA_step htb (by kernel_rfl) rfl rfl (OpT_assign rfl rfl rfl rfl) ?_
           refine TA_end rfl ?_
           refine Tk_wkS (fr' := [(6, some (.pointer (some ⟨b1, 0, none⟩))), (7, some (vU64 ((align3.1 + parts1.2.2) - base))), (8, some (vI (0 : Int)))]) (own' := [some (cellsR b1 27 [vB packed, vI np1, vU64 align1.1, vU64 align2.1, vU64 align3.1])]) (shr' := []) [6, 7, 8] [0] [] rfl rfl rfl rfl ?_
           obtain rfl := Option.some.inj h
           exact Tk_retV rfl rfl (resA (vs := [.agg #[vB packed, vI np1, vU64 align1.1, vU64 align2.1, vU64 align3.1], vU64 ((align3.1 + parts1.2.2) - base), vI (0 : Int)]) rfl ⟨⟨_, 0, _, _, _, rfl, rfl, .inl ⟨tyF27, rfl, rfl⟩⟩, rfl, rfl, trivial⟩) [] [] rfl rfl rfl ⟨rfl, rfl, rfl⟩
  ·intro HJ1
   rcases Bool.eq_false_or_eq_true (packed) with hg9 | hg9
   ·replace h := br_t hg9 h
    refine Tk_condT (congrArg (fun b => some (Value.bool b)) hg9) ?_
    refine Tk_region (Tops_step rfl (OpT_assign rfl rfl rfl rfl) ?_)
    refine Tops_nil (Tk_wkS (fr' := [(2, some (vU64 base)), (6, some (.pointer (some ⟨b1, 0, none⟩))), (9, some (.pointer (some ⟨b2, 0, none⟩))), (10, some (vU64 parts1.1)), (11, some (vU64 parts1.2.1)), (12, some (vU64 parts1.2.2)), (13, some (vU64 (4 : UInt64)))]) (own' := [some (cellsR b1 27 [vB false, vI (0 : Int), vU64 (0 : UInt64), vU64 (0 : UInt64), vU64 (0 : UInt64)]), some (cellsR b2 27 [vB packed, vI np1, vU64 (0 : UInt64), vU64 (0 : UInt64), vU64 (0 : UInt64)])]) (shr' := []) [2, 6, 9, 10, 11, 12, 13] [0, 1] [] rfl rfl rfl rfl ?_)
    exact Tk_jmpS (HJ1 (4 : UInt64) h) [2, 6, 9, 10, 11, 12, 13] [0, 1] [] rfl rfl rfl rfl
   ·replace h := br_f hg9 h
    refine Tk_condF (congrArg (fun b => some (Value.bool b)) hg9) ?_
    refine Tk_skip ?_
    exact Tk_jmpS (HJ1 (2 : UInt64) h) [2, 6, 9, 10, 11, 12, 13] [0, 1] [] rfl rfl rfl rfl

set_option maxRecDepth 100000 in
set_option maxHeartbeats 4000000 in
theorem w_ref_Fits04n0 {rp1 : Rings} {r : Int} (h : ref_Fits04n0 rp1 = some r) :
  Ctr Try.prog 26 #[.pointer none, .agg #[vB rp1.Packed, vI rp1.Size, vU64 rp1.Desc, vU64 rp1.Driver, vU64 rp1.Device]] [] []
   (fun rv own shr => rv = vI r ∧ own = [] ∧ shr = []) := by
 unfold ref_Fits04n0 at h
 refine Ctr.mk (args := [.pointer none, .agg #[vB rp1.Packed, vI rp1.Size, vU64 rp1.Desc, vU64 rp1.Driver, vU64 rp1.Device]]) Try.func26 rfl rfl (fun R0 w0 B => ?_)
 refine Tk_seq (Tk_region (Tops_ex rfl (OpT_box rfl rfl rfl rfl) fun b1 => ?_))
 refine Tops_step rfl (OpT_assign rfl rfl rfl rfl) ?_
 refine Tops_nil (Tk_wkS (fr' := [(0, some (.pointer none)), (3, some (.pointer (some ⟨b1, 0, none⟩)))]) (own' := [some (cellsR b1 27 [vB rp1.Packed, vI rp1.Size, vU64 rp1.Desc, vU64 rp1.Driver, vU64 rp1.Device])]) (shr' := []) [0, 3] [0] [] rfl rfl rfl rfl ?_)
 refine Tk_seq (Tk_seq (Tk_region (Tops_step rfl (OpT_move rfl rfl rfl rfl) ?_)))
 refine Tops_step rfl (OpT_ptrNil rfl rfl rfl (.inl rfl) rfl rfl ptrF50) ?_
 refine Tops_nil (Tk_wkS (fr' := [(0, some (.pointer none)), (3, some (.pointer (some ⟨b1, 0, none⟩))), (9, some (vB true))]) (own' := [some (cellsR b1 27 [vB rp1.Packed, vI rp1.Size, vU64 rp1.Desc, vU64 rp1.Driver, vU64 rp1.Device])]) (shr' := []) [0, 3, 9] [0] [] rfl rfl rfl rfl ?_)
 refine Tk_condT rfl ?_
 refine Tk_seq (Tk_region (Tops_step rfl (OpT_assign rfl rfl rfl rfl) ?_))
 refine Tops_nil (Tk_wkS (fr' := [(4, some (vI (1 : Int)))]) (own' := []) (shr' := []) [4] [] [] rfl rfl rfl rfl ?_)
 obtain rfl := Option.some.inj h
 exact Tk_retV rfl rfl (resA (vs := [vI (1 : Int)]) rfl ⟨rfl, trivial⟩) [] [] rfl rfl rfl ⟨rfl, rfl, rfl⟩

set_option maxRecDepth 100000 in
set_option maxHeartbeats 4000000 in
theorem w_ref_Mem_find02 {m : dumbwaiterref02_Mem} {atp1 : UInt64} {np2 : UInt64} {b_m : Nat} {vm1 : Value} {vm2 : Value} {vsm1 : List Value} {r : (Int × Int)} (h : ref_Mem_find02 m atp1 np2 = some r) :
  Ctr Try.prog 47 #[.pointer (some ⟨b_m, 0, none⟩), vU64 atp1, vU64 np2] [(cellsR b_m 79 [vm1, vm2]), (rowsX u8S false vm2 vsm1 m.B none)] [Fact.sl RegionS vm1 m.L]
   (fun rv own shr => rv = .tuple #[vI r.1, vI r.2] ∧ own = [(cellsR b_m 79 [vm1, vm2]), (rowsX u8S false vm2 vsm1 m.B none)] ∧ shr = []) := by
 unfold ref_Mem_find02 at h
 refine Ctr.mk (args := [.pointer (some ⟨b_m, 0, none⟩), vU64 atp1, vU64 np2]) Try.func47 rfl rfl (fun R0 w0 B => ?_)
 refine Tk_seq (Tk_region (Tops_step rfl (OpT_assign rfl rfl rfl rfl) ?_))
 refine Tops_step rfl (OpT_assign rfl rfl rfl rfl) ?_
 refine Tops_nil (Tk_wkS (fr' := [(0, some (.pointer (some ⟨b_m, 0, none⟩))), (1, some (vU64 atp1)), (2, some (vU64 np2))]) (own' := [some (cellsR b_m 79 [vm1, vm2]), some (rowsX u8S false vm2 vsm1 m.B none)]) (shr' := [Fact.sl RegionS vm1 m.L]) [0, 1, 2] [0, 1] [0] rfl rfl rfl rfl ?_)
 refine Tk_seq (Tk_seq (Tk_region (Tops_step rfl (OpT_assign rfl rfl rfl rfl) ?_)))
 refine Tops_nil (Tk_block (Tk_loopS (σ := Int) [0, 1, 2, 8] [0, 1] [0] (fun s => ⟨[(0, some (.pointer (some ⟨b_m, 0, none⟩))), (1, some (vU64 atp1)), (2, some (vU64 np2)), (8, some (vI s))], [some (cellsR b_m 79 [vm1, vm2]), some (rowsX u8S false vm2 vsm1 m.B none)], [Fact.sl RegionS vm1 m.L]⟩) (fun nf1 s => ref_Mem_find02L1 m atp1 np2 nf1 s = some r) fuel (0 : Int) h rfl rfl rfl rfl rfl (fun s h => by cases h) ?_))
 rintro nf1 i1 h
 replace h : ref_Mem_find02L1B m atp1 np2 (ref_Mem_find02L1 m atp1 np2 nf1) i1 = some r := h
 unfold ref_Mem_find02L1B at h
 refine Tk_seq (Tk_seq (Tk_region (Tops_step rfl (OpT_move rfl rfl rfl rfl) ?_)))
 refine Tops_step rfl (OpT_move rfl rfl rfl rfl) ?_
 refine Tops_step rfl (OpT_nilCheckP rfl rfl rfl rfl) ?_
 refine Tops_step rfl (OpT_fieldC rfl rfl rfl rfl fldF79x0) ?_
 refine Tops_step rfl (OpT_loadC rfl rfl rfl rfl tyF45 (i := 0) rfl rfl) ?_
 refine Tops_step rfl (OpT_lenS rfl rfl rfl rfl Try.underlying45 (i := 0) rfl) ?_
 refine Tops_step rfl (OpT_bin rfl rfl rfl rfl rfl (bin_lss_i (a := i1) (b := len m.L))) ?_
 refine Tops_nil (Tk_wkS (fr' := [(0, some (.pointer (some ⟨b_m, 0, none⟩))), (1, some (vU64 atp1)), (2, some (vU64 np2)), (8, some (vI i1)), (16, some (vB (decide (i1 < (len m.L)))))]) (own' := [some (cellsR b_m 79 [vm1, vm2]), some (rowsX u8S false vm2 vsm1 m.B none)]) (shr' := [Fact.sl RegionS vm1 m.L]) [0, 1, 2, 8, 16] [0, 1] [0] rfl rfl rfl rfl ?_)
 rcases Bool.eq_false_or_eq_true (decide (i1 < (len m.L))) with hg1 | hg1
 ·replace h := br_t hg1 h
  refine Tk_condT (congrArg (fun b => some (Value.bool b)) hg1) ?_
  refine Tk_skip (Tk_seq (Tk_block (Tk_seq (Tk_region (Tops_step rfl (OpT_move rfl rfl rfl rfl) ?_)))))
  refine Tops_step rfl (OpT_nilCheckP rfl rfl rfl rfl) ?_
  refine Tops_step rfl (OpT_fieldC rfl rfl rfl rfl fldF79x0) ?_
  refine Tops_step rfl (OpT_loadC rfl rfl rfl rfl tyF45 (i := 0) rfl rfl) ?_
  refine Tops_step rfl (OpT_move rfl rfl rfl rfl) ?_
  obtain ⟨r1, hx1, h⟩ := ob_e h
  refine Tops_ex rfl (OpT_idxS rfl rfl rfl rfl rfl slF45 (i := 0) rfl hx1) fun p1 => ?_
  refine Tops_step rfl (OpT_loadPA (vs := [vU64 r1.At, vU64 r1.Len]) rfl rfl rfl rfl tyF44 (i := 1) rfl rfl) ?_
  refine Tops_ex rfl (OpT_alloc rfl rfl rfl tyZ44) fun b1 => ?_
  refine Tops_step rfl (OpT_storeC (cs' := [vU64 r1.At, vU64 r1.Len]) rfl rfl rfl rfl tyF44 (i := 2) rfl rfl rfl (one_of rfl) rfl) ?_
  refine Tops_nil (Tk_wkS (fr' := [(0, some (.pointer (some ⟨b_m, 0, none⟩))), (1, some (vU64 atp1)), (2, some (vU64 np2)), (8, some (vI i1)), (9, some (.pointer (some ⟨b1, 0, none⟩)))]) (own' := [some (cellsR b_m 79 [vm1, vm2]), some (rowsX u8S false vm2 vsm1 m.B none), some (cellsR b1 44 [vU64 r1.At, vU64 r1.Len])]) (shr' := [Fact.sl RegionS vm1 m.L]) [0, 1, 2, 8, 9] [0, 1, 2] [0] rfl rfl rfl rfl ?_)
  refine Tk_seq (Tk_region (Tops_step rfl (OpT_move rfl rfl rfl rfl) ?_))
  refine Tops_step rfl (OpT_bin rfl rfl rfl rfl rfl (bin_geq_u64 (a := np2) (b := (1 : UInt64)))) ?_
  refine Tops_step rfl (OpT_move rfl rfl rfl rfl) ?_
  rcases Bool.eq_false_or_eq_true (decide (np2 ≥ (1 : UInt64))) with hg2 | hg2
  ·replace h := br_t hg2 h
   refine Tops_yes rfl rfl (congrArg (fun b => some (Value.bool b)) hg2) (OpT_move rfl rfl rfl rfl) ?_
   rintro _ rfl
   refine Tops_yes rfl rfl (congrArg (fun b => some (Value.bool b)) hg2) (OpT_fieldC rfl rfl rfl rfl fldF44x0) ?_
   rintro _ rfl
   refine Tops_yes rfl rfl (congrArg (fun b => some (Value.bool b)) hg2) (OpT_loadC rfl rfl rfl rfl tyF22 (i := 2) rfl rfl) ?_
   rintro _ rfl
   refine Tops_yes rfl rfl (congrArg (fun b => some (Value.bool b)) hg2) (OpT_bin rfl rfl rfl rfl rfl (bin_geq_u64 (a := atp1) (b := r1.At))) ?_
   rintro _ rfl
   refine Tops_step rfl (OpT_pickT rfl rfl rfl (congrArg (fun b => some (Value.bool b)) hg2) rfl) ?_
   refine Tops_step rfl (OpT_move rfl rfl rfl rfl) ?_
   rcases Bool.eq_false_or_eq_true (decide (atp1 ≥ r1.At)) with hg3 | hg3
   ·replace h := br_t hg3 h
    refine Tops_yes rfl rfl (congrArg (fun b => some (Value.bool b)) hg3) (OpT_move rfl rfl rfl rfl) ?_
    rintro _ rfl
    refine Tops_yes rfl rfl (congrArg (fun b => some (Value.bool b)) hg3) (OpT_fieldC rfl rfl rfl rfl fldF44x1) ?_
    rintro _ rfl
    refine Tops_yes rfl rfl (congrArg (fun b => some (Value.bool b)) hg3) (OpT_loadC rfl rfl rfl rfl tyF22 (i := 2) rfl rfl) ?_
    rintro _ rfl
    refine Tops_yes rfl rfl (congrArg (fun b => some (Value.bool b)) hg3) (OpT_bin rfl rfl rfl rfl rfl (bin_leq_u64 (a := np2) (b := r1.Len))) ?_
    rintro _ rfl
    refine Tops_step rfl (OpT_pickT rfl rfl rfl (congrArg (fun b => some (Value.bool b)) hg3) rfl) ?_
    refine Tops_step rfl (OpT_move rfl rfl rfl rfl) ?_
    rcases Bool.eq_false_or_eq_true (decide (np2 ≤ r1.Len)) with hg4 | hg4
    ·replace h := br_t hg4 h
     refine Tops_yes rfl rfl (congrArg (fun b => some (Value.bool b)) hg4) (OpT_move rfl rfl rfl rfl) ?_
     rintro _ rfl
     refine Tops_yes rfl rfl (congrArg (fun b => some (Value.bool b)) hg4) (OpT_fieldC rfl rfl rfl rfl fldF44x0) ?_
     rintro _ rfl
     refine Tops_yes rfl rfl (congrArg (fun b => some (Value.bool b)) hg4) (OpT_loadC rfl rfl rfl rfl tyF22 (i := 2) rfl rfl) ?_
     rintro _ rfl
     refine Tops_yes rfl rfl (congrArg (fun b => some (Value.bool b)) hg4) (OpT_bin rfl rfl rfl rfl rfl (bin_sub_u64 (a := atp1) (b := r1.At))) ?_
     rintro _ rfl
     refine Tops_yes rfl rfl (congrArg (fun b => some (Value.bool b)) hg4) (OpT_fieldC rfl rfl rfl rfl fldF44x1) ?_
     rintro _ rfl
     refine Tops_yes rfl rfl (congrArg (fun b => some (Value.bool b)) hg4) (OpT_loadC rfl rfl rfl rfl tyF22 (i := 2) rfl rfl) ?_
     rintro _ rfl
     refine Tops_yes rfl rfl (congrArg (fun b => some (Value.bool b)) hg4) (OpT_move rfl rfl rfl rfl) ?_
     rintro _ rfl
     refine Tops_yes rfl rfl (congrArg (fun b => some (Value.bool b)) hg4) (OpT_bin rfl rfl rfl rfl rfl (bin_sub_u64 (a := r1.Len) (b := np2))) ?_
     rintro _ rfl
     refine Tops_yes rfl rfl (congrArg (fun b => some (Value.bool b)) hg4) (OpT_bin rfl rfl rfl rfl rfl (bin_leq_u64 (a := atp1 - r1.At) (b := r1.Len - np2))) ?_
     rintro _ rfl
     refine Tops_step rfl (OpT_pickT rfl rfl rfl (congrArg (fun b => some (Value.bool b)) hg4) rfl) ?_
     refine Tops_nil (Tk_wkS (fr' := [(0, some (.pointer (some ⟨b_m, 0, none⟩))), (1, some (vU64 atp1)), (2, some (vU64 np2)), (8, some (vI i1)), (9, some (.pointer (some ⟨b1, 0, none⟩))), (50, some (vB (decide ((atp1 - r1.At) ≤ (r1.Len - np2)))))]) (own' := [some (cellsR b_m 79 [vm1, vm2]), some (rowsX u8S false vm2 vsm1 m.B none), some (cellsR b1 44 [vU64 r1.At, vU64 r1.Len])]) (shr' := [Fact.sl RegionS vm1 m.L]) [0, 1, 2, 8, 9, 50] [0, 1, 2] [0] rfl rfl rfl rfl ?_)
     rcases Bool.eq_false_or_eq_true (decide ((atp1 - r1.At) ≤ (r1.Len - np2))) with hg5 | hg5
     ·replace h := br_t hg5 h
      refine Tk_condT (congrArg (fun b => some (Value.bool b)) hg5) ?_
      refine Tk_seq (Tk_drawT (by kernel_rfl) ?_)
      refine TA_tb [0, 0, 0, 4, 14, 30, 1, 127] (by kernel_rfl) fun htb => ?_
      refine TA_wkS (fr' := [(1, some (vU64 atp1)), (8, some (vI i1)), (9, some (.pointer (some ⟨b1, 0, none⟩)))]) (own' := [some (cellsR b_m 79 [vm1, vm2]), some (rowsX u8S false vm2 vsm1 m.B none), some (cellsR b1 44 [vU64 r1.At, vU64 r1.Len])]) (shr' := [Fact.sl RegionS vm1 m.L]) [1, 8, 9] [0, 1, 2] [0] rfl rfl rfl rfl ?_
      refine TA_seg (lo := 0) (hi := 7) htb rfl rfl (by kernel_rfl) (fun c L a w => Sat c ⟨[(1, some (vU64 atp1)), (8, some (vI i1)), (9, some (.pointer (some ⟨b1, 0, none⟩))), (51, bif L 0 then some (vI i1) else none), (52, bif L 1 then some (vU64 atp1) else none), (53, bif L 2 then some (.pointer (some ⟨b1, 0, none⟩)) else none), (54, bif L 3 then some (vU64 r1.At) else none), (55, bif L 4 then some (vU64 (atp1 - r1.At)) else none), (56, bif L 5 then some (vI (i64 (atp1 - r1.At))) else none), (6, bif L 6 then some (vI i1) else none)], [(some (cellsR b_m 79 [vm1, vm2]) : Option Res), (some (rowsX u8S false vm2 vsm1 m.B none) : Option Res), (some (cellsR b1 44 [vU64 r1.At, vU64 r1.Len]) : Option Res)], [Fact.sl RegionS vm1 m.L]⟩ a w) [([], [6]), ([], [4, 5]), ([], [3, 4, 5]), ([2], [4, 5]), ([1, 2, 3], [5]), ([1, 2, 3, 4], []), ([0], [])] rfl (by kernel_rfl) ?_ (steps_cons ?_ (steps_cons ?_ (steps_cons ?_ (steps_cons ?_ (steps_cons ?_ (steps_cons ?_ (steps_cons ?_ (steps_nil)))))))) ?_
      ·intro a w hs
       exact hs.startF [51, 52, 53, 54, 55, 56, 6] [0, 1, 2] [0] rfl rfl rfl rfl
      ·intro L a w hv K Q hK
       have hs := hv
       refine wpOp_go rfl rfl hs (OpT_move rfl rfl rfl rfl) ?_
       rintro _ rfl a' w' hs'
       exact hK a' w' (hs'.putF (i := 3) rfl [0, 1, 2] [0] rfl rfl rfl rfl)
      ·intro L a w hv K Q hK
       have hs := hv
       refine wpOp_go rfl rfl hs (OpT_move rfl rfl rfl rfl) ?_
       rintro _ rfl a' w' hs'
       exact hK a' w' (hs'.putF (i := 4) rfl [0, 1, 2] [0] rfl rfl rfl rfl)
      ·intro L a w hv K Q hK
       have hs := hv
       refine wpOp_go rfl rfl hs (OpT_fieldC rfl rfl rfl rfl fldF44x0) ?_
       rintro _ rfl a' w' hs'
       exact hK a' w' (hs'.putF (i := 5) rfl [0, 1, 2] [0] rfl rfl rfl rfl)
      ·intro L a w hv K Q hK
       have hs := hv
       refine wpOp_go rfl rfl hs (OpT_loadC rfl rfl rfl rfl tyF22 (i := 2) rfl rfl) ?_
       rintro _ rfl a' w' hs'
       exact hK a' w' (hs'.putF (i := 6) rfl [0, 1, 2] [0] rfl rfl rfl rfl)
      ·intro L a w hv K Q hK
       have hs := hv
       refine wpOp_go rfl rfl hs (OpT_bin rfl rfl rfl rfl rfl (bin_sub_u64 (a := atp1) (b := r1.At))) ?_
       rintro _ rfl a' w' hs'
       exact hK a' w' (hs'.putF (i := 7) rfl [0, 1, 2] [0] rfl rfl rfl rfl)
      ·intro L a w hv K Q hK
       have hs := hv
       refine wpOp_go rfl rfl hs (OpT_cnv rfl rfl rfl rfl (cnv_u64_i (n := atp1 - r1.At) Try.underlying22 Try.underlying3)) ?_
       rintro _ rfl a' w' hs'
       exact hK a' w' (hs'.putF (i := 8) rfl [0, 1, 2] [0] rfl rfl rfl rfl)
      ·intro L a w hv K Q hK
       have hs := hv
       refine wpOp_go rfl rfl hs (OpT_assign rfl rfl rfl rfl) ?_
       rintro _ rfl a' w' hs'
       exact hK a' w' (hs'.putF (i := 9) rfl [0, 1, 2] [0] rfl rfl rfl rfl)
      ·intro L a w hL hv
       rw [allTrue hL] at hv
       have hs := hv
       refine (show TA _ _ _ 7 ⟨[(56, some (vI (i64 (atp1 - r1.At)))), (6, some (vI i1))], [some (cellsR b_m 79 [vm1, vm2]), some (rowsX u8S false vm2 vsm1 m.B none)], [Fact.sl RegionS vm1 m.L]⟩ from ?_) a w (hs.wkS [56, 6] [0, 1] [0] rfl rfl rfl rfl)
       clear hs hL
       refine TA_step htb (by kernel_rfl) rfl rfl (OpT_assign rfl rfl rfl rfl) ?_
       refine TA_end rfl ?_
       refine Tk_wkS (fr' := [(6, some (vI i1)), (7, some (vI (i64 (atp1 - r1.At))))]) (own' := [some (cellsR b_m 79 [vm1, vm2]), some (rowsX u8S false vm2 vsm1 m.B none)]) (shr' := [Fact.sl RegionS vm1 m.L]) [6, 7] [0, 1] [0] rfl rfl rfl rfl ?_
       obtain rfl := Option.some.inj h
       exact Tk_retV rfl rfl (resA (vs := [vI i1, vI (i64 (atp1 - r1.At))]) rfl ⟨rfl, rfl, trivial⟩) [0, 1] [] rfl rfl rfl ⟨rfl, rfl, rfl⟩
     ·replace h := br_f hg5 h
      refine Tk_condF (congrArg (fun b => some (Value.bool b)) hg5) ?_
      refine Tk_skip (Tk_blk (Tk_region (Tops_step rfl (OpT_move rfl rfl rfl rfl) ?_)))
      refine Tops_step rfl (OpT_bin rfl rfl rfl rfl rfl (bin_add_i (a := i1) (b := (1 : Int)))) ?_
      refine Tops_step rfl (OpT_assign rfl rfl rfl rfl) ?_
      refine Tops_nil (Tk_wkS (fr' := [(0, some (.pointer (some ⟨b_m, 0, none⟩))), (1, some (vU64 atp1)), (2, some (vU64 np2)), (8, some (vI (wi (i1 + (1 : Int)))))]) (own' := [some (cellsR b_m 79 [vm1, vm2]), some (rowsX u8S false vm2 vsm1 m.B none)]) (shr' := [Fact.sl RegionS vm1 m.L]) [0, 1, 2, 8] [0, 1] [0] rfl rfl rfl rfl ?_)
      exact Tk_backS (wi (i1 + (1 : Int))) h [0, 1, 2, 8] [0, 1] [0] rfl rfl rfl rfl rfl
    ·replace h := br_f hg4 h
     refine Tops_no rfl rfl (congrArg (fun b => some (Value.bool b)) hg4) rfl rfl ?_
     refine Tops_no rfl rfl (congrArg (fun b => some (Value.bool b)) hg4) rfl rfl ?_
     refine Tops_no rfl rfl (congrArg (fun b => some (Value.bool b)) hg4) rfl rfl ?_
     refine Tops_no rfl rfl (congrArg (fun b => some (Value.bool b)) hg4) rfl rfl ?_
     refine Tops_no rfl rfl (congrArg (fun b => some (Value.bool b)) hg4) rfl rfl ?_
     refine Tops_no rfl rfl (congrArg (fun b => some (Value.bool b)) hg4) rfl rfl ?_
     refine Tops_no rfl rfl (congrArg (fun b => some (Value.bool b)) hg4) rfl rfl ?_
     refine Tops_no rfl rfl (congrArg (fun b => some (Value.bool b)) hg4) rfl rfl ?_
     refine Tops_no rfl rfl (congrArg (fun b => some (Value.bool b)) hg4) rfl rfl ?_
     refine Tops_step rfl (OpT_pickF rfl rfl rfl (congrArg (fun b => some (Value.bool b)) hg4) rfl) ?_
     refine Tops_nil (Tk_wkS (fr' := [(0, some (.pointer (some ⟨b_m, 0, none⟩))), (1, some (vU64 atp1)), (2, some (vU64 np2)), (8, some (vI i1)), (9, some (.pointer (some ⟨b1, 0, none⟩))), (50, some (vB false))]) (own' := [some (cellsR b_m 79 [vm1, vm2]), some (rowsX u8S false vm2 vsm1 m.B none), some (cellsR b1 44 [vU64 r1.At, vU64 r1.Len])]) (shr' := [Fact.sl RegionS vm1 m.L]) [0, 1, 2, 8, 9, 50] [0, 1, 2] [0] rfl rfl rfl rfl ?_)
     refine Tk_condF rfl ?_
     refine Tk_skip (Tk_blk (Tk_region (Tops_step rfl (OpT_move rfl rfl rfl rfl) ?_)))
     refine Tops_step rfl (OpT_bin rfl rfl rfl rfl rfl (bin_add_i (a := i1) (b := (1 : Int)))) ?_
     refine Tops_step rfl (OpT_assign rfl rfl rfl rfl) ?_
     refine Tops_nil (Tk_wkS (fr' := [(0, some (.pointer (some ⟨b_m, 0, none⟩))), (1, some (vU64 atp1)), (2, some (vU64 np2)), (8, some (vI (wi (i1 + (1 : Int)))))]) (own' := [some (cellsR b_m 79 [vm1, vm2]), some (rowsX u8S false vm2 vsm1 m.B none)]) (shr' := [Fact.sl RegionS vm1 m.L]) [0, 1, 2, 8] [0, 1] [0] rfl rfl rfl rfl ?_)
     exact Tk_backS (wi (i1 + (1 : Int))) h [0, 1, 2, 8] [0, 1] [0] rfl rfl rfl rfl rfl
   ·replace h := br_f hg3 h
    refine Tops_no rfl rfl (congrArg (fun b => some (Value.bool b)) hg3) rfl rfl ?_
    refine Tops_no rfl rfl (congrArg (fun b => some (Value.bool b)) hg3) rfl rfl ?_
    refine Tops_no rfl rfl (congrArg (fun b => some (Value.bool b)) hg3) rfl rfl ?_
    refine Tops_no rfl rfl (congrArg (fun b => some (Value.bool b)) hg3) rfl rfl ?_
    refine Tops_step rfl (OpT_pickF rfl rfl rfl (congrArg (fun b => some (Value.bool b)) hg3) rfl) ?_
    refine Tops_step rfl (OpT_move rfl rfl rfl rfl) ?_
    refine Tops_no rfl rfl rfl rfl rfl ?_
    refine Tops_no rfl rfl rfl rfl rfl ?_
    refine Tops_no rfl rfl rfl rfl rfl ?_
    refine Tops_no rfl rfl rfl rfl rfl ?_
    refine Tops_no rfl rfl rfl rfl rfl ?_
    refine Tops_no rfl rfl rfl rfl rfl ?_
    refine Tops_no rfl rfl rfl rfl rfl ?_
    refine Tops_no rfl rfl rfl rfl rfl ?_
    refine Tops_no rfl rfl rfl rfl rfl ?_
    refine Tops_step rfl (OpT_pickF rfl rfl rfl rfl rfl) ?_
    refine Tops_nil (Tk_wkS (fr' := [(0, some (.pointer (some ⟨b_m, 0, none⟩))), (1, some (vU64 atp1)), (2, some (vU64 np2)), (8, some (vI i1)), (9, some (.pointer (some ⟨b1, 0, none⟩))), (50, some (vB false))]) (own' := [some (cellsR b_m 79 [vm1, vm2]), some (rowsX u8S false vm2 vsm1 m.B none), some (cellsR b1 44 [vU64 r1.At, vU64 r1.Len])]) (shr' := [Fact.sl RegionS vm1 m.L]) [0, 1, 2, 8, 9, 50] [0, 1, 2] [0] rfl rfl rfl rfl ?_)
    refine Tk_condF rfl ?_
    refine Tk_skip (Tk_blk (Tk_region (Tops_step rfl (OpT_move rfl rfl rfl rfl) ?_)))
    refine Tops_step rfl (OpT_bin rfl rfl rfl rfl rfl (bin_add_i (a := i1) (b := (1 : Int)))) ?_
    refine Tops_step rfl (OpT_assign rfl rfl rfl rfl) ?_
    refine Tops_nil (Tk_wkS (fr' := [(0, some (.pointer (some ⟨b_m, 0, none⟩))), (1, some (vU64 atp1)), (2, some (vU64 np2)), (8, some (vI (wi (i1 + (1 : Int)))))]) (own' := [some (cellsR b_m 79 [vm1, vm2]), some (rowsX u8S false vm2 vsm1 m.B none)]) (shr' := [Fact.sl RegionS vm1 m.L]) [0, 1, 2, 8] [0, 1] [0] rfl rfl rfl rfl ?_)
    exact Tk_backS (wi (i1 + (1 : Int))) h [0, 1, 2, 8] [0, 1] [0] rfl rfl rfl rfl rfl
  ·replace h := br_f hg2 h
   refine Tops_no rfl rfl (congrArg (fun b => some (Value.bool b)) hg2) rfl rfl ?_
   refine Tops_no rfl rfl (congrArg (fun b => some (Value.bool b)) hg2) rfl rfl ?_
   refine Tops_no rfl rfl (congrArg (fun b => some (Value.bool b)) hg2) rfl rfl ?_
   refine Tops_no rfl rfl (congrArg (fun b => some (Value.bool b)) hg2) rfl rfl ?_
   refine Tops_step rfl (OpT_pickF rfl rfl rfl (congrArg (fun b => some (Value.bool b)) hg2) rfl) ?_
   refine Tops_step rfl (OpT_move rfl rfl rfl rfl) ?_
   refine Tops_no rfl rfl rfl rfl rfl ?_
   refine Tops_no rfl rfl rfl rfl rfl ?_
   refine Tops_no rfl rfl rfl rfl rfl ?_
   refine Tops_no rfl rfl rfl rfl rfl ?_
   refine Tops_step rfl (OpT_pickF rfl rfl rfl rfl rfl) ?_
   refine Tops_step rfl (OpT_move rfl rfl rfl rfl) ?_
   refine Tops_no rfl rfl rfl rfl rfl ?_
   refine Tops_no rfl rfl rfl rfl rfl ?_
   refine Tops_no rfl rfl rfl rfl rfl ?_
   refine Tops_no rfl rfl rfl rfl rfl ?_
   refine Tops_no rfl rfl rfl rfl rfl ?_
   refine Tops_no rfl rfl rfl rfl rfl ?_
   refine Tops_no rfl rfl rfl rfl rfl ?_
   refine Tops_no rfl rfl rfl rfl rfl ?_
   refine Tops_no rfl rfl rfl rfl rfl ?_
   refine Tops_step rfl (OpT_pickF rfl rfl rfl rfl rfl) ?_
   refine Tops_nil (Tk_wkS (fr' := [(0, some (.pointer (some ⟨b_m, 0, none⟩))), (1, some (vU64 atp1)), (2, some (vU64 np2)), (8, some (vI i1)), (9, some (.pointer (some ⟨b1, 0, none⟩))), (50, some (vB false))]) (own' := [some (cellsR b_m 79 [vm1, vm2]), some (rowsX u8S false vm2 vsm1 m.B none), some (cellsR b1 44 [vU64 r1.At, vU64 r1.Len])]) (shr' := [Fact.sl RegionS vm1 m.L]) [0, 1, 2, 8, 9, 50] [0, 1, 2] [0] rfl rfl rfl rfl ?_)
   refine Tk_condF rfl ?_
   refine Tk_skip (Tk_blk (Tk_region (Tops_step rfl (OpT_move rfl rfl rfl rfl) ?_)))
   refine Tops_step rfl (OpT_bin rfl rfl rfl rfl rfl (bin_add_i (a := i1) (b := (1 : Int)))) ?_
   refine Tops_step rfl (OpT_assign rfl rfl rfl rfl) ?_
   refine Tops_nil (Tk_wkS (fr' := [(0, some (.pointer (some ⟨b_m, 0, none⟩))), (1, some (vU64 atp1)), (2, some (vU64 np2)), (8, some (vI (wi (i1 + (1 : Int)))))]) (own' := [some (cellsR b_m 79 [vm1, vm2]), some (rowsX u8S false vm2 vsm1 m.B none)]) (shr' := [Fact.sl RegionS vm1 m.L]) [0, 1, 2, 8] [0, 1] [0] rfl rfl rfl rfl ?_)
   exact Tk_backS (wi (i1 + (1 : Int))) h [0, 1, 2, 8] [0, 1] [0] rfl rfl rfl rfl rfl
 ·replace h := br_f hg1 h
  refine Tk_condF (congrArg (fun b => some (Value.bool b)) hg1) ?_
  refine Tk_exit _ rfl ?_
  refine Tk_seq (Tk_region (Tops_step rfl (OpT_assign rfl rfl rfl rfl) ?_))
  refine Tops_step rfl (OpT_assign rfl rfl rfl rfl) ?_
  refine Tops_nil (Tk_wkS (fr' := [(6, some (vI ((-1) : Int))), (7, some (vI (0 : Int)))]) (own' := [some (cellsR b_m 79 [vm1, vm2]), some (rowsX u8S false vm2 vsm1 m.B none)]) (shr' := [Fact.sl RegionS vm1 m.L]) [6, 7] [0, 1] [0] rfl rfl rfl rfl ?_)
  obtain rfl := Option.some.inj h
  exact Tk_retV rfl rfl (resA (vs := [vI ((-1) : Int), vI (0 : Int)]) rfl ⟨rfl, rfl, trivial⟩) [0, 1] [] rfl rfl rfl ⟨rfl, rfl, rfl⟩

set_option maxRecDepth 100000 in
set_option maxHeartbeats 4000000 in
theorem w_ref_Mem_Has02 {m : dumbwaiterref02_Mem} {atp1 : UInt64} {np2 : UInt64} {b_m : Nat} {vm1 : Value} {vm2 : Value} {vsm1 : List Value} {r : Bool} (h : ref_Mem_Has02 m atp1 np2 = some r) :
  Ctr Try.prog 41 #[.pointer (some ⟨b_m, 0, none⟩), vU64 atp1, vU64 np2] [(cellsR b_m 79 [vm1, vm2]), (rowsX u8S false vm2 vsm1 m.B none)] [Fact.sl RegionS vm1 m.L]
   (fun rv own shr => rv = vB r ∧ own = [(cellsR b_m 79 [vm1, vm2]), (rowsX u8S false vm2 vsm1 m.B none)] ∧ shr = []) := by
 unfold ref_Mem_Has02 at h
 refine Ctr.mk (args := [.pointer (some ⟨b_m, 0, none⟩), vU64 atp1, vU64 np2]) Try.func41 rfl rfl (fun R0 w0 B => ?_)
 refine Tk_seq (Tk_region (Tops_step rfl (OpT_assign rfl rfl rfl rfl) ?_))
 refine Tops_nil (Tk_wkS (fr' := [(0, some (.pointer (some ⟨b_m, 0, none⟩))), (1, some (vU64 atp1)), (2, some (vU64 np2))]) (own' := [some (cellsR b_m 79 [vm1, vm2]), some (rowsX u8S false vm2 vsm1 m.B none)]) (shr' := [Fact.sl RegionS vm1 m.L]) [0, 1, 2] [0, 1] [0] rfl rfl rfl rfl ?_)
 refine Tk_seq (Tk_region (Tops_step rfl (OpT_move rfl rfl rfl rfl) ?_))
 refine Tops_step rfl (OpT_move rfl rfl rfl rfl) ?_
 refine Tops_step rfl (OpT_move rfl rfl rfl rfl) ?_
 obtain ⟨find1, hx1, h⟩ := ob_e h
 refine Tops_exP rfl (OpT_callP [2, 3] (w_ref_Mem_find02 hx1) [0, 1] [0] rfl rfl rfl rfl rfl callee47 rfl rfl rfl rfl rfl) ?_
 rintro _ ⟨_, _, _, ⟨rfl, rfl, rfl⟩, rfl⟩
 refine Tops_step rfl (OpT_move rfl rfl rfl rfl) ?_
 refine Tops_step rfl (OpT_extract rfl rfl rfl rfl rfl) ?_
 refine Tops_step rfl (OpT_extract rfl rfl rfl rfl rfl) ?_
 refine Tops_step rfl (OpT_assign rfl rfl rfl rfl) ?_
 refine Tops_step rfl (OpT_assign rfl rfl rfl rfl) ?_
 refine Tops_nil (Tk_wkS (fr' := [(7, some (vI find1.1))]) (own' := [some (cellsR b_m 79 [vm1, vm2]), some (rowsX u8S false vm2 vsm1 m.B none)]) (shr' := [Fact.sl RegionS vm1 m.L]) [7] [0, 1] [0] rfl rfl rfl rfl ?_)
 refine Tk_seq (Tk_region (Tops_step rfl (OpT_move rfl rfl rfl rfl) ?_))
 refine Tops_step rfl (OpT_bin rfl rfl rfl rfl rfl (bin_geq_i (a := find1.1) (b := (0 : Int)))) ?_
 refine Tops_step rfl (OpT_assign rfl rfl rfl rfl) ?_
 refine Tops_nil (Tk_wkS (fr' := [(6, some (vB (decide (find1.1 ≥ (0 : Int)))))]) (own' := [some (cellsR b_m 79 [vm1, vm2]), some (rowsX u8S false vm2 vsm1 m.B none)]) (shr' := [Fact.sl RegionS vm1 m.L]) [6] [0, 1] [0] rfl rfl rfl rfl ?_)
 obtain rfl := Option.some.inj h
 exact Tk_retV rfl rfl (resA (vs := [vB (decide (find1.1 ≥ (0 : Int)))]) rfl ⟨rfl, trivial⟩) [0, 1] [] rfl rfl rfl ⟨rfl, rfl, rfl⟩
end Go.Proofs.Ytbeendakebamhaa
