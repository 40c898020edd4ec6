/- The functions do what the plain words say: each is walked once. No statement of the seat is proved here; no condition. -/
import Derived.Test.YtbeendakebamhaaWa1
namespace Go.Proofs.Ytbeendakebamhaa

set_option maxRecDepth 100000 in
set_option maxHeartbeats 4000000 in
theorem w_layout_Where {rp0 : Rings} {what : Int} {ip2 : Int} {r : (UInt64 × Int × Int)} (h : layout_Where rp0 what ip2 = some r) :
  Ctr Try.prog 12 #[.agg #[vB rp0.Packed, vI rp0.Size, vU64 rp0.Desc, vU64 rp0.Driver, vU64 rp0.Device], vI what, vI ip2] [] []
   (fun rv own shr => rv = .tuple #[vU64 r.1, vI r.2.1, vI r.2.2] ∧ own = [] ∧ shr = []) := by
 unfold layout_Where at h
 refine Ctr.mk (args := [.agg #[vB rp0.Packed, vI rp0.Size, vU64 rp0.Desc, vU64 rp0.Driver, vU64 rp0.Device], vI what, vI ip2]) Try.func12 rfl rfl (fun R0 w0 B => ?_)
 refine Tk_seq (Tk_region (Tops_ex rfl (OpT_box rfl rfl rfl rfl) fun b1 => ?_))
 refine Tops_step rfl (OpT_assign rfl rfl rfl rfl) ?_
 refine Tops_step rfl (OpT_assign rfl rfl rfl rfl) ?_
 refine Tops_step rfl (OpT_assign rfl rfl rfl rfl) ?_
 refine Tops_nil (Tk_wkS (fr' := [(1, some (vI what)), (2, some (vI ip2)), (3, some (.pointer (some ⟨b1, 0, none⟩)))]) (own' := [some (cellsR b1 27 [vB rp0.Packed, vI rp0.Size, vU64 rp0.Desc, vU64 rp0.Driver, vU64 rp0.Device])]) (shr' := []) [1, 2, 3] [0] [] rfl rfl rfl rfl ?_)
 refine Tk_seq (Tk_seq (Tk_region (Tops_step rfl (OpT_loadCA (vs := [vB rp0.Packed, vI rp0.Size, vU64 rp0.Desc, vU64 rp0.Driver, vU64 rp0.Device]) rfl rfl rfl rfl tyF27 (i := 0) rfl rfl rfl) ?_)))
 obtain ⟨check1, hx1, h⟩ := ob_e h
 refine Tops_exP rfl (OpT_call (w_layout_Check hx1) [] [] rfl rfl rfl rfl rfl callee13 rfl rfl rfl rfl) ?_
 rintro _ ⟨_, _, _, ⟨rfl, rfl, rfl⟩, rfl⟩
 refine Tops_step rfl (OpT_bin rfl rfl rfl rfl rfl (bin_neq_i (a := check1) (b := (0 : Int)))) ?_
 refine Tops_nil (Tk_wkS (fr' := [(1, some (vI what)), (2, some (vI ip2)), (3, some (.pointer (some ⟨b1, 0, none⟩))), (15, some (vB (check1 != (0 : Int))))]) (own' := [some (cellsR b1 27 [vB rp0.Packed, vI rp0.Size, vU64 rp0.Desc, vU64 rp0.Driver, vU64 rp0.Device])]) (shr' := []) [1, 2, 3, 15] [0] [] rfl rfl rfl rfl ?_)
 rcases Bool.eq_false_or_eq_true (check1 != (0 : Int)) with hg1 | hg1
 ·replace h := br_t hg1 h
  refine Tk_condT (congrArg (fun b => some (Value.bool b)) hg1) ?_
  refine Tk_seq (Tk_region (Tops_step rfl (OpT_assign rfl rfl rfl rfl) ?_))
  refine Tops_step rfl (OpT_assign rfl rfl rfl rfl) ?_
  refine Tops_step rfl (OpT_assign rfl rfl rfl rfl) ?_
  refine Tops_nil (Tk_wkS (fr' := [(6, some (vU64 (0 : UInt64))), (7, some (vI (0 : Int))), (8, some (vI (2 : Int)))]) (own' := []) (shr' := []) [6, 7, 8] [] [] rfl rfl rfl rfl ?_)
  obtain rfl := Option.some.inj h
  exact Tk_retV rfl rfl (resA (vs := [vU64 (0 : UInt64), vI (0 : Int), vI (2 : Int)]) rfl ⟨rfl, rfl, rfl, trivial⟩) [] [] rfl rfl rfl ⟨rfl, rfl, rfl⟩
 ·replace h := br_f hg1 h
  refine Tk_condF (congrArg (fun b => some (Value.bool b)) hg1) ?_
  refine Tk_skip (Tk_seq (Tk_region (Tops_step rfl (OpT_fieldC rfl rfl rfl rfl fldF27x1) ?_)))
  refine Tops_step rfl (OpT_loadC rfl rfl rfl rfl tyF3 (i := 0) rfl rfl) ?_
  refine Tops_step rfl (OpT_cnv rfl rfl rfl rfl (cnv_i_u64 (n := rp0.Size) Try.underlying3 Try.underlying22)) ?_
  refine Tops_step rfl (OpT_assign rfl rfl rfl rfl) ?_
  refine Tops_nil (Tk_wkS (fr' := [(1, some (vI what)), (2, some (vI ip2)), (3, some (.pointer (some ⟨b1, 0, none⟩))), (9, some (vU64 (u64 rp0.Size)))]) (own' := [some (cellsR b1 27 [vB rp0.Packed, vI rp0.Size, vU64 rp0.Desc, vU64 rp0.Driver, vU64 rp0.Device])]) (shr' := []) [1, 2, 3, 9] [0] [] rfl rfl rfl rfl ?_)
  refine Tk_seq (Tk_region (Tops_step rfl (OpT_move rfl rfl rfl rfl) ?_))
  refine Tops_step rfl (OpT_cnv rfl rfl rfl rfl (cnv_i_u64 (n := ip2) Try.underlying3 Try.underlying22)) ?_
  refine Tops_step rfl (OpT_assign rfl rfl rfl rfl) ?_
  refine Tops_nil (Tk_wkS (fr' := [(1, some (vI what)), (2, some (vI ip2)), (3, some (.pointer (some ⟨b1, 0, none⟩))), (9, some (vU64 (u64 rp0.Size))), (10, some (vU64 (u64 ip2)))]) (own' := [some (cellsR b1 27 [vB rp0.Packed, vI rp0.Size, vU64 rp0.Desc, vU64 rp0.Driver, vU64 rp0.Device])]) (shr' := []) [1, 2, 3, 9, 10] [0] [] rfl rfl rfl rfl ?_)
  refine Tk_seq (Tk_region (Tops_step rfl (OpT_assign rfl rfl rfl rfl) ?_))
  refine Tops_nil (Tk_seq (Tk_region (Tops_step rfl (OpT_assign rfl rfl rfl rfl) ?_)))
  refine Tops_nil (Tk_seq (Tk_seq (Tk_region (Tops_step rfl (OpT_fieldC rfl rfl rfl rfl fldF27x0) ?_))))
  refine Tops_step rfl (OpT_loadC rfl rfl rfl rfl tyF4 (i := 0) rfl rfl) ?_
  refine Tops_nil (Tk_wkS (fr' := [(1, some (vI what)), (2, some (vI ip2)), (3, some (.pointer (some ⟨b1, 0, none⟩))), (9, some (vU64 (u64 rp0.Size))), (10, some (vU64 (u64 ip2))), (11, some (vB true)), (12, some (vI (0 : Int))), (22, some (vB rp0.Packed))]) (own' := [some (cellsR b1 27 [vB rp0.Packed, vI rp0.Size, vU64 rp0.Desc, vU64 rp0.Driver, vU64 rp0.Device])]) (shr' := []) [1, 2, 3, 9, 10, 11, 12, 22] [0] [] rfl rfl rfl rfl ?_)
  refine Tk_join (α := Int) (fun s => ⟨[(1, some (vI what)), (2, some (vI ip2)), (3, some (.pointer (some ⟨b1, 0, none⟩))), (9, some (vU64 (u64 rp0.Size))), (10, some (vU64 (u64 ip2))), (11, some (vB true)), (12, some (vI s))], [some (cellsR b1 27 [vB rp0.Packed, vI rp0.Size, vU64 rp0.Desc, vU64 rp0.Driver, vU64 rp0.Device])], []⟩) (fun s => layout_WhereJ1 rp0 what ip2 s = some r) ?_ ?_
  ·rintro packed1 h
   replace h : layout_WhereJ1 rp0 what ip2 packed1 = some r := h
   unfold layout_WhereJ1 at h
   refine Tk_seq (Tk_seq (Tk_region (Tops_step rfl (OpT_move rfl rfl rfl rfl) ?_)))
   refine Tops_step rfl (OpT_move rfl rfl rfl rfl) ?_
   refine Tops_step rfl (OpT_build (v := .agg #[vI packed1, vI what]) rfl rfl rfl rfl (bldV (by kernel_rfl))) ?_
   refine Tops_nil (Tk_wkS (fr' := [(1, some (vI what)), (2, some (vI ip2)), (3, some (.pointer (some ⟨b1, 0, none⟩))), (9, some (vU64 (u64 rp0.Size))), (10, some (vU64 (u64 ip2))), (11, some (vB true)), (12, some (vI packed1)), (25, some (.agg #[vI packed1, vI what]))]) (own' := [some (cellsR b1 27 [vB rp0.Packed, vI rp0.Size, vU64 rp0.Desc, vU64 rp0.Driver, vU64 rp0.Device])]) (shr' := []) [1, 2, 3, 9, 10, 11, 12, 25] [0] [] rfl rfl rfl rfl ?_)
   refine Tk_join (α := Bool × UInt64 × Int) (fun s => ⟨[(2, some (vI ip2)), (3, some (.pointer (some ⟨b1, 0, none⟩))), (11, some (vB s.1)), (6, some (vU64 s.2.1)), (7, some (vI s.2.2))], [some (cellsR b1 27 [vB rp0.Packed, vI rp0.Size, vU64 rp0.Desc, vU64 rp0.Driver, vU64 rp0.Device])], []⟩) (fun s => layout_WhereJ2 rp0 ip2 s.1 s.2.1 s.2.2 = some r) ?_ ?_
   ·rintro ⟨many1, at1, bytes1⟩ h
    replace h : layout_WhereJ2 rp0 ip2 many1 at1 bytes1 = some r := h
    unfold layout_WhereJ2 at h
    refine Tk_seq (Tk_seq (Tk_region (Tops_step rfl (OpT_move rfl rfl rfl rfl) ?_)))
    refine Tops_step rfl (OpT_bin rfl rfl rfl rfl rfl (bin_lss_i (a := ip2) (b := (0 : Int)))) ?_
    refine Tops_step rfl (OpT_move rfl rfl rfl rfl) ?_
    rcases Bool.eq_false_or_eq_true (decide (ip2 < (0 : Int))) with hg2 | hg2
    ·replace h := br_t hg2 h
     refine Tops_no rfl rfl (congrArg (fun b => some (Value.bool b)) hg2) rfl rfl ?_
     refine Tops_no rfl rfl (congrArg (fun b => some (Value.bool b)) hg2) rfl rfl ?_
     refine Tops_noU rfl rfl rfl rfl rfl ?_
     refine Tops_noU rfl rfl rfl rfl rfl ?_
     refine Tops_noU rfl rfl rfl rfl rfl ?_
     refine Tops_noU rfl rfl rfl rfl rfl ?_
     refine Tops_no rfl rfl (congrArg (fun b => some (Value.bool b)) hg2) rfl rfl ?_
     refine Tops_step rfl (OpT_pickT rfl rfl rfl (congrArg (fun b => some (Value.bool b)) hg2) rfl) ?_
     refine Tops_step rfl (OpT_move rfl rfl rfl rfl) ?_
     refine Tops_no rfl rfl rfl rfl rfl ?_
     refine Tops_no rfl rfl rfl rfl rfl ?_
     refine Tops_no rfl rfl rfl rfl rfl ?_
     refine Tops_noU rfl rfl rfl rfl rfl ?_
     refine Tops_noU rfl rfl rfl rfl rfl ?_
     refine Tops_no rfl rfl rfl rfl rfl ?_
     refine Tops_step rfl (OpT_pickT rfl rfl rfl rfl rfl) ?_
     refine Tops_nil (Tk_wkS (fr' := [(6, some (vU64 at1)), (7, some (vI bytes1)), (125, some (vB true))]) (own' := []) (shr' := []) [6, 7, 125] [] [] rfl rfl rfl rfl ?_)
     refine Tk_condT rfl ?_
     refine Tk_seq (Tk_region (Tops_step rfl (OpT_assign rfl rfl rfl rfl) ?_))
     refine Tops_step rfl (OpT_assign rfl rfl rfl rfl) ?_
     refine Tops_step rfl (OpT_assign rfl rfl rfl rfl) ?_
     refine Tops_nil (Tk_wkS (fr' := [(6, some (vU64 (0 : UInt64))), (7, some (vI (0 : Int))), (8, some (vI (2 : Int)))]) (own' := []) (shr' := []) [6, 7, 8] [] [] rfl rfl rfl rfl ?_)
     obtain rfl := Option.some.inj h
     exact Tk_retV rfl rfl (resA (vs := [vU64 (0 : UInt64), vI (0 : Int), vI (2 : Int)]) rfl ⟨rfl, rfl, rfl, trivial⟩) [] [] rfl rfl rfl ⟨rfl, rfl, rfl⟩
    ·replace h := br_f hg2 h
     refine Tops_yes rfl rfl (congrArg (fun b => some (Value.bool b)) hg2) (OpT_move rfl rfl rfl rfl) ?_
     rintro _ rfl
     refine Tops_yes rfl rfl (congrArg (fun b => some (Value.bool b)) hg2) (OpT_move rfl rfl rfl rfl) ?_
     rintro _ rfl
     rcases Bool.eq_false_or_eq_true (many1) with hg3 | hg3
     ·replace h := br_t hg3 h
      refine Tops_yes rfl rfl (congrArg (fun b => some (Value.bool b)) hg3) (OpT_move rfl rfl rfl rfl) ?_
      rintro _ rfl
      refine Tops_yes rfl rfl (congrArg (fun b => some (Value.bool b)) hg3) (OpT_fieldC rfl rfl rfl rfl fldF27x1) ?_
      rintro _ rfl
      refine Tops_yes rfl rfl (congrArg (fun b => some (Value.bool b)) hg3) (OpT_loadC rfl rfl rfl rfl tyF3 (i := 0) rfl rfl) ?_
      rintro _ rfl
      refine Tops_yes rfl rfl (congrArg (fun b => some (Value.bool b)) hg3) (OpT_bin rfl rfl rfl rfl rfl (bin_geq_i (a := ip2) (b := rp0.Size))) ?_
      rintro _ rfl
      refine Tops_yes rfl rfl (congrArg (fun b => some (Value.bool b)) hg2) (OpT_pickT rfl rfl rfl (congrArg (fun b => some (Value.bool b)) hg3) rfl) ?_
      rintro _ rfl
      refine Tops_step rfl (OpT_pickF rfl rfl rfl (congrArg (fun b => some (Value.bool b)) hg2) rfl) ?_
      refine Tops_step rfl (OpT_move rfl rfl rfl rfl) ?_
      rcases Bool.eq_false_or_eq_true (decide (ip2 ≥ rp0.Size)) with hg4 | hg4
      ·replace h := br_t hg4 h
       refine Tops_no rfl rfl (congrArg (fun b => some (Value.bool b)) hg4) rfl rfl ?_
       refine Tops_no rfl rfl (congrArg (fun b => some (Value.bool b)) hg4) rfl rfl ?_
       refine Tops_no rfl rfl (congrArg (fun b => some (Value.bool b)) hg4) rfl rfl ?_
       refine Tops_noU rfl rfl rfl rfl rfl ?_
       refine Tops_noU rfl rfl rfl rfl rfl ?_
       refine Tops_no rfl rfl (congrArg (fun b => some (Value.bool b)) hg4) rfl rfl ?_
       refine Tops_step rfl (OpT_pickT rfl rfl rfl (congrArg (fun b => some (Value.bool b)) hg4) rfl) ?_
       refine Tops_nil (Tk_wkS (fr' := [(6, some (vU64 at1)), (7, some (vI bytes1)), (125, some (vB true))]) (own' := []) (shr' := []) [6, 7, 125] [] [] rfl rfl rfl rfl ?_)
       refine Tk_condT rfl ?_
       refine Tk_seq (Tk_region (Tops_step rfl (OpT_assign rfl rfl rfl rfl) ?_))
       refine Tops_step rfl (OpT_assign rfl rfl rfl rfl) ?_
       refine Tops_step rfl (OpT_assign rfl rfl rfl rfl) ?_
       refine Tops_nil (Tk_wkS (fr' := [(6, some (vU64 (0 : UInt64))), (7, some (vI (0 : Int))), (8, some (vI (2 : Int)))]) (own' := []) (shr' := []) [6, 7, 8] [] [] rfl rfl rfl rfl ?_)
       obtain rfl := Option.some.inj h
       exact Tk_retV rfl rfl (resA (vs := [vU64 (0 : UInt64), vI (0 : Int), vI (2 : Int)]) rfl ⟨rfl, rfl, rfl, trivial⟩) [] [] rfl rfl rfl ⟨rfl, rfl, rfl⟩
      ·replace h := br_f hg4 h
       refine Tops_yes rfl rfl (congrArg (fun b => some (Value.bool b)) hg4) (OpT_move rfl rfl rfl rfl) ?_
       rintro _ rfl
       refine Tops_yes rfl rfl (congrArg (fun b => some (Value.bool b)) hg4) (OpT_not rfl rfl rfl rfl) ?_
       rintro _ rfl
       refine Tops_yes rfl rfl (congrArg (fun b => some (Value.bool b)) hg4) (OpT_move rfl rfl rfl rfl) ?_
       rintro _ rfl
       refine Tops_no rfl rfl (congrArg (fun b => some (Value.bool b)) (congrArg (!·) hg3)) rfl rfl ?_
       refine Tops_no rfl rfl (congrArg (fun b => some (Value.bool b)) (congrArg (!·) hg3)) rfl rfl ?_
       refine Tops_yes rfl rfl (congrArg (fun b => some (Value.bool b)) hg4) (OpT_pickF rfl rfl rfl (congrArg (fun b => some (Value.bool b)) (congrArg (!·) hg3)) rfl) ?_
       rintro _ rfl
       refine Tops_step rfl (OpT_pickF rfl rfl rfl (congrArg (fun b => some (Value.bool b)) hg4) rfl) ?_
       refine Tops_nil (Tk_wkS (fr' := [(6, some (vU64 at1)), (7, some (vI bytes1)), (125, some (vB false))]) (own' := []) (shr' := []) [6, 7, 125] [] [] rfl rfl rfl rfl ?_)
       refine Tk_condF rfl ?_
       refine Tk_skip (Tk_seq (Tk_region (Tops_step rfl (OpT_move rfl rfl rfl rfl) ?_)))
       refine Tops_step rfl (OpT_move rfl rfl rfl rfl) ?_
       refine Tops_step rfl (OpT_assign rfl rfl rfl rfl) ?_
       refine Tops_step rfl (OpT_assign rfl rfl rfl rfl) ?_
       refine Tops_step rfl (OpT_assign rfl rfl rfl rfl) ?_
       refine Tops_nil (Tk_wkS (fr' := [(6, some (vU64 at1)), (7, some (vI bytes1)), (8, some (vI (0 : Int)))]) (own' := []) (shr' := []) [6, 7, 8] [] [] rfl rfl rfl rfl ?_)
       obtain rfl := Option.some.inj h
       exact Tk_retV rfl rfl (resA (vs := [vU64 at1, vI bytes1, vI (0 : Int)]) rfl ⟨rfl, rfl, rfl, trivial⟩) [] [] rfl rfl rfl ⟨rfl, rfl, rfl⟩
     ·replace h := br_f hg3 h
      refine Tops_no rfl rfl (congrArg (fun b => some (Value.bool b)) hg3) rfl rfl ?_
      refine Tops_no rfl rfl (congrArg (fun b => some (Value.bool b)) hg3) rfl rfl ?_
      refine Tops_no rfl rfl (congrArg (fun b => some (Value.bool b)) hg3) rfl rfl ?_
      refine Tops_no rfl rfl (congrArg (fun b => some (Value.bool b)) hg3) rfl rfl ?_
      refine Tops_yes rfl rfl (congrArg (fun b => some (Value.bool b)) hg2) (OpT_pickF rfl rfl rfl (congrArg (fun b => some (Value.bool b)) hg3) rfl) ?_
      rintro _ rfl
      refine Tops_step rfl (OpT_pickF rfl rfl rfl (congrArg (fun b => some (Value.bool b)) hg2) rfl) ?_
      refine Tops_step rfl (OpT_move rfl rfl rfl rfl) ?_
      refine Tops_yes rfl rfl rfl (OpT_move rfl rfl rfl rfl) ?_
      rintro _ rfl
      refine Tops_yes rfl rfl rfl (OpT_not rfl rfl rfl rfl) ?_
      rintro _ rfl
      refine Tops_yes rfl rfl rfl (OpT_move rfl rfl rfl rfl) ?_
      rintro _ rfl
      refine Tops_yes rfl rfl (congrArg (fun b => some (Value.bool b)) (congrArg (!·) hg3)) (OpT_move rfl rfl rfl rfl) ?_
      rintro _ rfl
      refine Tops_yes rfl rfl (congrArg (fun b => some (Value.bool b)) (congrArg (!·) hg3)) (OpT_bin rfl rfl rfl rfl rfl (bin_neq_i (a := ip2) (b := (0 : Int)))) ?_
      rintro _ rfl
      refine Tops_yes rfl rfl rfl (OpT_pickT rfl rfl rfl (congrArg (fun b => some (Value.bool b)) (congrArg (!·) hg3)) rfl) ?_
      rintro _ rfl
      refine Tops_step rfl (OpT_pickF rfl rfl rfl rfl rfl) ?_
      refine Tops_nil (Tk_wkS (fr' := [(6, some (vU64 at1)), (7, some (vI bytes1)), (125, some (vB (ip2 != (0 : Int))))]) (own' := []) (shr' := []) [6, 7, 125] [] [] rfl rfl rfl rfl ?_)
      rcases Bool.eq_false_or_eq_true (ip2 != (0 : Int)) with hg5 | hg5
      ·replace h := br_t hg5 h
       refine Tk_condT (congrArg (fun b => some (Value.bool b)) hg5) ?_
       refine Tk_seq (Tk_region (Tops_step rfl (OpT_assign rfl rfl rfl rfl) ?_))
       refine Tops_step rfl (OpT_assign rfl rfl rfl rfl) ?_
       refine Tops_step rfl (OpT_assign rfl rfl rfl rfl) ?_
       refine Tops_nil (Tk_wkS (fr' := [(6, some (vU64 (0 : UInt64))), (7, some (vI (0 : Int))), (8, some (vI (2 : Int)))]) (own' := []) (shr' := []) [6, 7, 8] [] [] rfl rfl rfl rfl ?_)
       obtain rfl := Option.some.inj h
       exact Tk_retV rfl rfl (resA (vs := [vU64 (0 : UInt64), vI (0 : Int), vI (2 : Int)]) rfl ⟨rfl, rfl, rfl, trivial⟩) [] [] rfl rfl rfl ⟨rfl, rfl, rfl⟩
      ·replace h := br_f hg5 h
       refine Tk_condF (congrArg (fun b => some (Value.bool b)) hg5) ?_
       refine Tk_skip (Tk_seq (Tk_region (Tops_step rfl (OpT_move rfl rfl rfl rfl) ?_)))
       refine Tops_step rfl (OpT_move rfl rfl rfl rfl) ?_
       refine Tops_step rfl (OpT_assign rfl rfl rfl rfl) ?_
       refine Tops_step rfl (OpT_assign rfl rfl rfl rfl) ?_
       refine Tops_step rfl (OpT_assign rfl rfl rfl rfl) ?_
       refine Tops_nil (Tk_wkS (fr' := [(6, some (vU64 at1)), (7, some (vI bytes1)), (8, some (vI (0 : Int)))]) (own' := []) (shr' := []) [6, 7, 8] [] [] rfl rfl rfl rfl ?_)
       obtain rfl := Option.some.inj h
       exact Tk_retV rfl rfl (resA (vs := [vU64 at1, vI bytes1, vI (0 : Int)]) rfl ⟨rfl, rfl, rfl, trivial⟩) [] [] rfl rfl rfl ⟨rfl, rfl, rfl⟩
   ·intro HJ1
    refine Tk_block (Tk_seq (Tk_seq (Tk_region (Tops_step rfl (OpT_build (v := .agg #[vI (0 : Int), vI (1 : Int)]) rfl rfl rfl rfl (bldV (by kernel_rfl))) ?_))))
    refine Tops_step rfl (OpT_bin rfl rfl rfl rfl rfl (eqT66_eql (A2.mk packed1 what) (A2.mk (0 : Int) (1 : Int)))) ?_
    refine Tops_step rfl (OpT_assign rfl rfl rfl rfl) ?_
    refine Tops_nil (Tk_wkS (fr' := [(1, some (vI what)), (2, some (vI ip2)), (3, some (.pointer (some ⟨b1, 0, none⟩))), (9, some (vU64 (u64 rp0.Size))), (10, some (vU64 (u64 ip2))), (11, some (vB true)), (12, some (vI packed1)), (25, some (.agg #[vI packed1, vI what])), (79, some (vB ((A2.mk packed1 what) == (A2.mk (0 : Int) (1 : Int)))))]) (own' := [some (cellsR b1 27 [vB rp0.Packed, vI rp0.Size, vU64 rp0.Desc, vU64 rp0.Driver, vU64 rp0.Device])]) (shr' := []) [1, 2, 3, 9, 10, 11, 12, 25, 79] [0] [] rfl rfl rfl rfl ?_)
    refine Tk_join (α := Bool) (fun s => ⟨[(1, some (vI what)), (2, some (vI ip2)), (3, some (.pointer (some ⟨b1, 0, none⟩))), (9, some (vU64 (u64 rp0.Size))), (10, some (vU64 (u64 ip2))), (11, some (vB true)), (12, some (vI packed1)), (25, some (.agg #[vI packed1, vI what])), (79, some (vB s))], [some (cellsR b1 27 [vB rp0.Packed, vI rp0.Size, vU64 rp0.Desc, vU64 rp0.Driver, vU64 rp0.Device])], []⟩) (fun s => layout_WhereJ3 rp0 what ip2 packed1 s = some r) ?_ ?_
    ·rintro x1 h
     replace h : layout_WhereJ3 rp0 what ip2 packed1 x1 = some r := h
     unfold layout_WhereJ3 at h
     refine Tk_join (α := Bool × UInt64 × Int) (fun s => ⟨[(2, some (vI ip2)), (3, some (.pointer (some ⟨b1, 0, none⟩))), (11, some (vB s.1)), (6, some (vU64 s.2.1)), (7, some (vI s.2.2))], [some (cellsR b1 27 [vB rp0.Packed, vI rp0.Size, vU64 rp0.Desc, vU64 rp0.Driver, vU64 rp0.Device])], []⟩) (fun s => layout_WhereJ4 rp0 ip2 s.1 s.2.1 s.2.2 = some r) ?_ ?_
     ·rintro ⟨many2, at2, bytes2⟩ h
      replace h : layout_WhereJ4 rp0 ip2 many2 at2 bytes2 = some r := h
      unfold layout_WhereJ4 at h
      refine Tk_blk ?_
      exact Tk_jmpS (HJ1 (many2, at2, bytes2) h) [2, 3, 11, 6, 7] [0] [] rfl rfl rfl rfl
     ·intro HJ2
      rcases Bool.eq_false_or_eq_true (x1) with hg6 | hg6
      ·replace h := br_t hg6 h
       refine Tk_condT (congrArg (fun b => some (Value.bool b)) hg6) ?_
       refine Tk_region (Tops_step rfl (OpT_fieldC rfl rfl rfl rfl fldF27x2) ?_)
       refine Tops_step rfl (OpT_loadC rfl rfl rfl rfl tyF22 (i := 0) rfl rfl) ?_
       refine Tops_step rfl (OpT_move rfl rfl rfl rfl) ?_
       refine Tops_step rfl (OpT_bin rfl rfl rfl rfl rfl (bin_mul_u64 (a := (16 : UInt64)) (b := u64 ip2))) ?_
       refine Tops_step rfl (OpT_bin rfl rfl rfl rfl rfl (bin_add_u64 (a := rp0.Desc) (b := (16 : UInt64) * (u64 ip2)))) ?_
       refine Tops_step rfl (OpT_assign rfl rfl rfl rfl) ?_
       refine Tops_step rfl (OpT_assign rfl rfl rfl rfl) ?_
       refine Tops_nil (Tk_wkS (fr' := [(2, some (vI ip2)), (3, some (.pointer (some ⟨b1, 0, none⟩))), (11, some (vB true)), (6, some (vU64 (rp0.Desc + ((16 : UInt64) * (u64 ip2))))), (7, some (vI (16 : Int)))]) (own' := [some (cellsR b1 27 [vB rp0.Packed, vI rp0.Size, vU64 rp0.Desc, vU64 rp0.Driver, vU64 rp0.Device])]) (shr' := []) [2, 3, 11, 6, 7] [0] [] rfl rfl rfl rfl ?_)
       exact Tk_jmpS (HJ2 (true, rp0.Desc + ((16 : UInt64) * (u64 ip2)), (16 : Int)) h) [2, 3, 11, 6, 7] [0] [] rfl rfl rfl rfl
      ·replace h := br_f hg6 h
       refine Tk_condF (congrArg (fun b => some (Value.bool b)) hg6) ?_
       refine Tk_seq (Tk_region (Tops_step rfl (OpT_build (v := .agg #[vI (0 : Int), vI (4 : Int)]) rfl rfl rfl rfl (bldV (by kernel_rfl))) ?_))
       refine Tops_step rfl (OpT_bin rfl rfl rfl rfl rfl (eqT66_eql (A2.mk packed1 what) (A2.mk (0 : Int) (4 : Int)))) ?_
       refine Tops_step rfl (OpT_assign rfl rfl rfl rfl) ?_
       refine Tops_nil (Tk_wkS (fr' := [(1, some (vI what)), (2, some (vI ip2)), (3, some (.pointer (some ⟨b1, 0, none⟩))), (9, some (vU64 (u64 rp0.Size))), (10, some (vU64 (u64 ip2))), (11, some (vB true)), (12, some (vI packed1)), (25, some (.agg #[vI packed1, vI what])), (89, some (vB ((A2.mk packed1 what) == (A2.mk (0 : Int) (4 : Int)))))]) (own' := [some (cellsR b1 27 [vB rp0.Packed, vI rp0.Size, vU64 rp0.Desc, vU64 rp0.Driver, vU64 rp0.Device])]) (shr' := []) [1, 2, 3, 9, 10, 11, 12, 25, 89] [0] [] rfl rfl rfl rfl ?_)
       rcases Bool.eq_false_or_eq_true ((A2.mk packed1 what) == (A2.mk (0 : Int) (4 : Int))) with hg7 | hg7
       ·replace h := br_t hg7 h
        refine Tk_condT (congrArg (fun b => some (Value.bool b)) hg7) ?_
        refine Tk_region (Tops_step rfl (OpT_fieldC rfl rfl rfl rfl fldF27x3) ?_)
        refine Tops_step rfl (OpT_loadC rfl rfl rfl rfl tyF22 (i := 0) rfl rfl) ?_
        refine Tops_step rfl (OpT_bin rfl rfl rfl rfl rfl (bin_add_u64 (a := rp0.Driver) (b := (4 : UInt64)))) ?_
        refine Tops_step rfl (OpT_move rfl rfl rfl rfl) ?_
        refine Tops_step rfl (OpT_bin rfl rfl rfl rfl rfl (bin_mul_u64 (a := (2 : UInt64)) (b := u64 ip2))) ?_
        refine Tops_step rfl (OpT_bin rfl rfl rfl rfl rfl (bin_add_u64 (a := rp0.Driver + (4 : UInt64)) (b := (2 : UInt64) * (u64 ip2)))) ?_
        refine Tops_step rfl (OpT_assign rfl rfl rfl rfl) ?_
        refine Tops_step rfl (OpT_assign rfl rfl rfl rfl) ?_
        refine Tops_nil (Tk_wkS (fr' := [(2, some (vI ip2)), (3, some (.pointer (some ⟨b1, 0, none⟩))), (11, some (vB true)), (6, some (vU64 ((rp0.Driver + (4 : UInt64)) + ((2 : UInt64) * (u64 ip2))))), (7, some (vI (2 : Int)))]) (own' := [some (cellsR b1 27 [vB rp0.Packed, vI rp0.Size, vU64 rp0.Desc, vU64 rp0.Driver, vU64 rp0.Device])]) (shr' := []) [2, 3, 11, 6, 7] [0] [] rfl rfl rfl rfl ?_)
        exact Tk_jmpS (HJ2 (true, (rp0.Driver + (4 : UInt64)) + ((2 : UInt64) * (u64 ip2)), (2 : Int)) h) [2, 3, 11, 6, 7] [0] [] rfl rfl rfl rfl
       ·replace h := br_f hg7 h
        refine Tk_condF (congrArg (fun b => some (Value.bool b)) hg7) ?_
        refine Tk_seq (Tk_region (Tops_step rfl (OpT_build (v := .agg #[vI (0 : Int), vI (8 : Int)]) rfl rfl rfl rfl (bldV (by kernel_rfl))) ?_))
        refine Tops_step rfl (OpT_bin rfl rfl rfl rfl rfl (eqT66_eql (A2.mk packed1 what) (A2.mk (0 : Int) (8 : Int)))) ?_
        refine Tops_step rfl (OpT_assign rfl rfl rfl rfl) ?_
        refine Tops_nil (Tk_wkS (fr' := [(1, some (vI what)), (2, some (vI ip2)), (3, some (.pointer (some ⟨b1, 0, none⟩))), (9, some (vU64 (u64 rp0.Size))), (10, some (vU64 (u64 ip2))), (11, some (vB true)), (12, some (vI packed1)), (98, some (vB ((A2.mk packed1 what) == (A2.mk (0 : Int) (8 : Int)))))]) (own' := [some (cellsR b1 27 [vB rp0.Packed, vI rp0.Size, vU64 rp0.Desc, vU64 rp0.Driver, vU64 rp0.Device])]) (shr' := []) [1, 2, 3, 9, 10, 11, 12, 98] [0] [] rfl rfl rfl rfl ?_)
        rcases Bool.eq_false_or_eq_true ((A2.mk packed1 what) == (A2.mk (0 : Int) (8 : Int))) with hg8 | hg8
        ·replace h := br_t hg8 h
         refine Tk_condT (congrArg (fun b => some (Value.bool b)) hg8) ?_
         refine Tk_region (Tops_step rfl (OpT_fieldC rfl rfl rfl rfl fldF27x4) ?_)
         refine Tops_step rfl (OpT_loadC rfl rfl rfl rfl tyF22 (i := 0) rfl rfl) ?_
         refine Tops_step rfl (OpT_bin rfl rfl rfl rfl rfl (bin_add_u64 (a := rp0.Device) (b := (4 : UInt64)))) ?_
         refine Tops_step rfl (OpT_move rfl rfl rfl rfl) ?_
         refine Tops_step rfl (OpT_bin rfl rfl rfl rfl rfl (bin_mul_u64 (a := (8 : UInt64)) (b := u64 ip2))) ?_
         refine Tops_step rfl (OpT_bin rfl rfl rfl rfl rfl (bin_add_u64 (a := rp0.Device + (4 : UInt64)) (b := (8 : UInt64) * (u64 ip2)))) ?_
         refine Tops_step rfl (OpT_assign rfl rfl rfl rfl) ?_
         refine Tops_step rfl (OpT_assign rfl rfl rfl rfl) ?_
         refine Tops_nil (Tk_wkS (fr' := [(2, some (vI ip2)), (3, some (.pointer (some ⟨b1, 0, none⟩))), (11, some (vB true)), (6, some (vU64 ((rp0.Device + (4 : UInt64)) + ((8 : UInt64) * (u64 ip2))))), (7, some (vI (8 : Int)))]) (own' := [some (cellsR b1 27 [vB rp0.Packed, vI rp0.Size, vU64 rp0.Desc, vU64 rp0.Driver, vU64 rp0.Device])]) (shr' := []) [2, 3, 11, 6, 7] [0] [] rfl rfl rfl rfl ?_)
         exact Tk_jmpS (HJ2 (true, (rp0.Device + (4 : UInt64)) + ((8 : UInt64) * (u64 ip2)), (8 : Int)) h) [2, 3, 11, 6, 7] [0] [] rfl rfl rfl rfl
        ·replace h := br_f hg8 h
         refine Tk_condF (congrArg (fun b => some (Value.bool b)) hg8) ?_
         refine Tk_seq (Tk_region (Tops_step rfl (OpT_assign rfl rfl rfl rfl) ?_))
         refine Tops_nil (Tk_wkS (fr' := [(1, some (vI what)), (2, some (vI ip2)), (3, some (.pointer (some ⟨b1, 0, none⟩))), (9, some (vU64 (u64 rp0.Size))), (11, some (vB false)), (12, some (vI packed1))]) (own' := [some (cellsR b1 27 [vB rp0.Packed, vI rp0.Size, vU64 rp0.Desc, vU64 rp0.Driver, vU64 rp0.Device])]) (shr' := []) [1, 2, 3, 9, 11, 12] [0] [] rfl rfl rfl rfl ?_)
         refine Tk_seq (Tk_region (Tops_step rfl (OpT_move rfl rfl rfl rfl) ?_))
         refine Tops_step rfl (OpT_move rfl rfl rfl rfl) ?_
         refine Tops_step rfl (OpT_build (v := .agg #[vI packed1, vI what]) rfl rfl rfl rfl (bldV (by kernel_rfl))) ?_
         refine Tops_nil (Tk_wkS (fr' := [(2, some (vI ip2)), (3, some (.pointer (some ⟨b1, 0, none⟩))), (9, some (vU64 (u64 rp0.Size))), (11, some (vB false)), (28, some (.agg #[vI packed1, vI what]))]) (own' := [some (cellsR b1 27 [vB rp0.Packed, vI rp0.Size, vU64 rp0.Desc, vU64 rp0.Driver, vU64 rp0.Device])]) (shr' := []) [2, 3, 9, 11, 28] [0] [] rfl rfl rfl rfl ?_)
         refine Tk_block (Tk_seq (Tk_region (Tops_step rfl (OpT_build (v := .agg #[vI (0 : Int), vI (2 : Int)]) rfl rfl rfl rfl (bldV (by kernel_rfl))) ?_)))
         refine Tops_step rfl (OpT_bin rfl rfl rfl rfl rfl (eqT66_eql (A2.mk packed1 what) (A2.mk (0 : Int) (2 : Int)))) ?_
         refine Tops_step rfl (OpT_assign rfl rfl rfl rfl) ?_
         refine Tops_nil (Tk_wkS (fr' := [(2, some (vI ip2)), (3, some (.pointer (some ⟨b1, 0, none⟩))), (9, some (vU64 (u64 rp0.Size))), (11, some (vB false)), (28, some (.agg #[vI packed1, vI what])), (29, some (vB ((A2.mk packed1 what) == (A2.mk (0 : Int) (2 : Int)))))]) (own' := [some (cellsR b1 27 [vB rp0.Packed, vI rp0.Size, vU64 rp0.Desc, vU64 rp0.Driver, vU64 rp0.Device])]) (shr' := []) [2, 3, 9, 11, 28, 29] [0] [] rfl rfl rfl rfl ?_)
         refine Tk_join (α := UInt64 × Int) (fun s => ⟨[(2, some (vI ip2)), (3, some (.pointer (some ⟨b1, 0, none⟩))), (11, some (vB false)), (6, some (vU64 s.1)), (7, some (vI s.2))], [some (cellsR b1 27 [vB rp0.Packed, vI rp0.Size, vU64 rp0.Desc, vU64 rp0.Driver, vU64 rp0.Device])], []⟩) (fun s => layout_WhereJ5 rp0 ip2 s.1 s.2 = some r) ?_ ?_
         ·rintro ⟨at3, bytes3⟩ h
          replace h : layout_WhereJ5 rp0 ip2 at3 bytes3 = some r := h
          unfold layout_WhereJ5 at h
          refine Tk_blk ?_
          exact Tk_jmpS (HJ2 (false, at3, bytes3) h) [2, 3, 11, 6, 7] [0] [] rfl rfl rfl rfl
         ·intro HJ3
          rcases Bool.eq_false_or_eq_true ((A2.mk packed1 what) == (A2.mk (0 : Int) (2 : Int))) with hg9 | hg9
          ·replace h := br_t hg9 h
           refine Tk_condT (congrArg (fun b => some (Value.bool b)) hg9) ?_
           refine Tk_region (Tops_step rfl (OpT_fieldC rfl rfl rfl rfl fldF27x3) ?_)
           refine Tops_step rfl (OpT_loadC rfl rfl rfl rfl tyF22 (i := 0) rfl rfl) ?_
           refine Tops_step rfl (OpT_assign rfl rfl rfl rfl) ?_
           refine Tops_step rfl (OpT_assign rfl rfl rfl rfl) ?_
           refine Tops_nil (Tk_wkS (fr' := [(2, some (vI ip2)), (3, some (.pointer (some ⟨b1, 0, none⟩))), (11, some (vB false)), (6, some (vU64 rp0.Driver)), (7, some (vI (2 : Int)))]) (own' := [some (cellsR b1 27 [vB rp0.Packed, vI rp0.Size, vU64 rp0.Desc, vU64 rp0.Driver, vU64 rp0.Device])]) (shr' := []) [2, 3, 11, 6, 7] [0] [] rfl rfl rfl rfl ?_)
           exact Tk_jmpS (HJ3 (rp0.Driver, (2 : Int)) h) [2, 3, 11, 6, 7] [0] [] rfl rfl rfl rfl
          ·replace h := br_f hg9 h
           refine Tk_condF (congrArg (fun b => some (Value.bool b)) hg9) ?_
           refine Tk_seq (Tk_region (Tops_step rfl (OpT_build (v := .agg #[vI (0 : Int), vI (3 : Int)]) rfl rfl rfl rfl (bldV (by kernel_rfl))) ?_))
           refine Tops_step rfl (OpT_bin rfl rfl rfl rfl rfl (eqT66_eql (A2.mk packed1 what) (A2.mk (0 : Int) (3 : Int)))) ?_
           refine Tops_step rfl (OpT_assign rfl rfl rfl rfl) ?_
           refine Tops_nil (Tk_wkS (fr' := [(2, some (vI ip2)), (3, some (.pointer (some ⟨b1, 0, none⟩))), (9, some (vU64 (u64 rp0.Size))), (11, some (vB false)), (28, some (.agg #[vI packed1, vI what])), (34, some (vB ((A2.mk packed1 what) == (A2.mk (0 : Int) (3 : Int)))))]) (own' := [some (cellsR b1 27 [vB rp0.Packed, vI rp0.Size, vU64 rp0.Desc, vU64 rp0.Driver, vU64 rp0.Device])]) (shr' := []) [2, 3, 9, 11, 28, 34] [0] [] rfl rfl rfl rfl ?_)
           rcases Bool.eq_false_or_eq_true ((A2.mk packed1 what) == (A2.mk (0 : Int) (3 : Int))) with hg10 | hg10
           ·replace h := br_t hg10 h
            refine Tk_condT (congrArg (fun b => some (Value.bool b)) hg10) ?_
            refine Tk_region (Tops_step rfl (OpT_fieldC rfl rfl rfl rfl fldF27x3) ?_)
            refine Tops_step rfl (OpT_loadC rfl rfl rfl rfl tyF22 (i := 0) rfl rfl) ?_
            refine Tops_step rfl (OpT_bin rfl rfl rfl rfl rfl (bin_add_u64 (a := rp0.Driver) (b := (2 : UInt64)))) ?_
            refine Tops_step rfl (OpT_assign rfl rfl rfl rfl) ?_
            refine Tops_step rfl (OpT_assign rfl rfl rfl rfl) ?_
            refine Tops_nil (Tk_wkS (fr' := [(2, some (vI ip2)), (3, some (.pointer (some ⟨b1, 0, none⟩))), (11, some (vB false)), (6, some (vU64 (rp0.Driver + (2 : UInt64)))), (7, some (vI (2 : Int)))]) (own' := [some (cellsR b1 27 [vB rp0.Packed, vI rp0.Size, vU64 rp0.Desc, vU64 rp0.Driver, vU64 rp0.Device])]) (shr' := []) [2, 3, 11, 6, 7] [0] [] rfl rfl rfl rfl ?_)
            exact Tk_jmpS (HJ3 (rp0.Driver + (2 : UInt64), (2 : Int)) h) [2, 3, 11, 6, 7] [0] [] rfl rfl rfl rfl
           ·replace h := br_f hg10 h
            refine Tk_condF (congrArg (fun b => some (Value.bool b)) hg10) ?_
            refine Tk_seq (Tk_region (Tops_step rfl (OpT_build (v := .agg #[vI (0 : Int), vI (5 : Int)]) rfl rfl rfl rfl (bldV (by kernel_rfl))) ?_))
            refine Tops_step rfl (OpT_bin rfl rfl rfl rfl rfl (eqT66_eql (A2.mk packed1 what) (A2.mk (0 : Int) (5 : Int)))) ?_
            refine Tops_step rfl (OpT_assign rfl rfl rfl rfl) ?_
            refine Tops_nil (Tk_wkS (fr' := [(2, some (vI ip2)), (3, some (.pointer (some ⟨b1, 0, none⟩))), (9, some (vU64 (u64 rp0.Size))), (11, some (vB false)), (28, some (.agg #[vI packed1, vI what])), (40, some (vB ((A2.mk packed1 what) == (A2.mk (0 : Int) (5 : Int)))))]) (own' := [some (cellsR b1 27 [vB rp0.Packed, vI rp0.Size, vU64 rp0.Desc, vU64 rp0.Driver, vU64 rp0.Device])]) (shr' := []) [2, 3, 9, 11, 28, 40] [0] [] rfl rfl rfl rfl ?_)
            rcases Bool.eq_false_or_eq_true ((A2.mk packed1 what) == (A2.mk (0 : Int) (5 : Int))) with hg11 | hg11
            ·replace h := br_t hg11 h
             refine Tk_condT (congrArg (fun b => some (Value.bool b)) hg11) ?_
             refine Tk_region (Tops_step rfl (OpT_fieldC rfl rfl rfl rfl fldF27x3) ?_)
             refine Tops_step rfl (OpT_loadC rfl rfl rfl rfl tyF22 (i := 0) rfl rfl) ?_
             refine Tops_step rfl (OpT_bin rfl rfl rfl rfl rfl (bin_add_u64 (a := rp0.Driver) (b := (4 : UInt64)))) ?_
             refine Tops_step rfl (OpT_move rfl rfl rfl rfl) ?_
             refine Tops_step rfl (OpT_bin rfl rfl rfl rfl rfl (bin_mul_u64 (a := (2 : UInt64)) (b := u64 rp0.Size))) ?_
             refine Tops_step rfl (OpT_bin rfl rfl rfl rfl rfl (bin_add_u64 (a := rp0.Driver + (4 : UInt64)) (b := (2 : UInt64) * (u64 rp0.Size)))) ?_
             refine Tops_step rfl (OpT_assign rfl rfl rfl rfl) ?_
             refine Tops_step rfl (OpT_assign rfl rfl rfl rfl) ?_
             refine Tops_nil (Tk_wkS (fr' := [(2, some (vI ip2)), (3, some (.pointer (some ⟨b1, 0, none⟩))), (11, some (vB false)), (6, some (vU64 ((rp0.Driver + (4 : UInt64)) + ((2 : UInt64) * (u64 rp0.Size))))), (7, some (vI (2 : Int)))]) (own' := [some (cellsR b1 27 [vB rp0.Packed, vI rp0.Size, vU64 rp0.Desc, vU64 rp0.Driver, vU64 rp0.Device])]) (shr' := []) [2, 3, 11, 6, 7] [0] [] rfl rfl rfl rfl ?_)
             exact Tk_jmpS (HJ3 ((rp0.Driver + (4 : UInt64)) + ((2 : UInt64) * (u64 rp0.Size)), (2 : Int)) h) [2, 3, 11, 6, 7] [0] [] rfl rfl rfl rfl
            ·replace h := br_f hg11 h
             refine Tk_condF (congrArg (fun b => some (Value.bool b)) hg11) ?_
             refine Tk_seq (Tk_region (Tops_step rfl (OpT_build (v := .agg #[vI (0 : Int), vI (6 : Int)]) rfl rfl rfl rfl (bldV (by kernel_rfl))) ?_))
             refine Tops_step rfl (OpT_bin rfl rfl rfl rfl rfl (eqT66_eql (A2.mk packed1 what) (A2.mk (0 : Int) (6 : Int)))) ?_
             refine Tops_step rfl (OpT_assign rfl rfl rfl rfl) ?_
             refine Tops_nil (Tk_wkS (fr' := [(2, some (vI ip2)), (3, some (.pointer (some ⟨b1, 0, none⟩))), (9, some (vU64 (u64 rp0.Size))), (11, some (vB false)), (28, some (.agg #[vI packed1, vI what])), (49, some (vB ((A2.mk packed1 what) == (A2.mk (0 : Int) (6 : Int)))))]) (own' := [some (cellsR b1 27 [vB rp0.Packed, vI rp0.Size, vU64 rp0.Desc, vU64 rp0.Driver, vU64 rp0.Device])]) (shr' := []) [2, 3, 9, 11, 28, 49] [0] [] rfl rfl rfl rfl ?_)
             rcases Bool.eq_false_or_eq_true ((A2.mk packed1 what) == (A2.mk (0 : Int) (6 : Int))) with hg12 | hg12
             ·replace h := br_t hg12 h
              refine Tk_condT (congrArg (fun b => some (Value.bool b)) hg12) ?_
              refine Tk_region (Tops_step rfl (OpT_fieldC rfl rfl rfl rfl fldF27x4) ?_)
              refine Tops_step rfl (OpT_loadC rfl rfl rfl rfl tyF22 (i := 0) rfl rfl) ?_
              refine Tops_step rfl (OpT_assign rfl rfl rfl rfl) ?_
              refine Tops_step rfl (OpT_assign rfl rfl rfl rfl) ?_
              refine Tops_nil (Tk_wkS (fr' := [(2, some (vI ip2)), (3, some (.pointer (some ⟨b1, 0, none⟩))), (11, some (vB false)), (6, some (vU64 rp0.Device)), (7, some (vI (2 : Int)))]) (own' := [some (cellsR b1 27 [vB rp0.Packed, vI rp0.Size, vU64 rp0.Desc, vU64 rp0.Driver, vU64 rp0.Device])]) (shr' := []) [2, 3, 11, 6, 7] [0] [] rfl rfl rfl rfl ?_)
              exact Tk_jmpS (HJ3 (rp0.Device, (2 : Int)) h) [2, 3, 11, 6, 7] [0] [] rfl rfl rfl rfl
             ·replace h := br_f hg12 h
              refine Tk_condF (congrArg (fun b => some (Value.bool b)) hg12) ?_
              refine Tk_seq (Tk_region (Tops_step rfl (OpT_build (v := .agg #[vI (0 : Int), vI (7 : Int)]) rfl rfl rfl rfl (bldV (by kernel_rfl))) ?_))
              refine Tops_step rfl (OpT_bin rfl rfl rfl rfl rfl (eqT66_eql (A2.mk packed1 what) (A2.mk (0 : Int) (7 : Int)))) ?_
              refine Tops_step rfl (OpT_assign rfl rfl rfl rfl) ?_
              refine Tops_nil (Tk_wkS (fr' := [(2, some (vI ip2)), (3, some (.pointer (some ⟨b1, 0, none⟩))), (9, some (vU64 (u64 rp0.Size))), (11, some (vB false)), (28, some (.agg #[vI packed1, vI what])), (54, some (vB ((A2.mk packed1 what) == (A2.mk (0 : Int) (7 : Int)))))]) (own' := [some (cellsR b1 27 [vB rp0.Packed, vI rp0.Size, vU64 rp0.Desc, vU64 rp0.Driver, vU64 rp0.Device])]) (shr' := []) [2, 3, 9, 11, 28, 54] [0] [] rfl rfl rfl rfl ?_)
              rcases Bool.eq_false_or_eq_true ((A2.mk packed1 what) == (A2.mk (0 : Int) (7 : Int))) with hg13 | hg13
              ·replace h := br_t hg13 h
               refine Tk_condT (congrArg (fun b => some (Value.bool b)) hg13) ?_
               refine Tk_region (Tops_step rfl (OpT_fieldC rfl rfl rfl rfl fldF27x4) ?_)
               refine Tops_step rfl (OpT_loadC rfl rfl rfl rfl tyF22 (i := 0) rfl rfl) ?_
               refine Tops_step rfl (OpT_bin rfl rfl rfl rfl rfl (bin_add_u64 (a := rp0.Device) (b := (2 : UInt64)))) ?_
               refine Tops_step rfl (OpT_assign rfl rfl rfl rfl) ?_
               refine Tops_step rfl (OpT_assign rfl rfl rfl rfl) ?_
               refine Tops_nil (Tk_wkS (fr' := [(2, some (vI ip2)), (3, some (.pointer (some ⟨b1, 0, none⟩))), (11, some (vB false)), (6, some (vU64 (rp0.Device + (2 : UInt64)))), (7, some (vI (2 : Int)))]) (own' := [some (cellsR b1 27 [vB rp0.Packed, vI rp0.Size, vU64 rp0.Desc, vU64 rp0.Driver, vU64 rp0.Device])]) (shr' := []) [2, 3, 11, 6, 7] [0] [] rfl rfl rfl rfl ?_)
               exact Tk_jmpS (HJ3 (rp0.Device + (2 : UInt64), (2 : Int)) h) [2, 3, 11, 6, 7] [0] [] rfl rfl rfl rfl
              ·replace h := br_f hg13 h
               refine Tk_condF (congrArg (fun b => some (Value.bool b)) hg13) ?_
               refine Tk_seq (Tk_region (Tops_step rfl (OpT_build (v := .agg #[vI (0 : Int), vI (9 : Int)]) rfl rfl rfl rfl (bldV (by kernel_rfl))) ?_))
               refine Tops_step rfl (OpT_bin rfl rfl rfl rfl rfl (eqT66_eql (A2.mk packed1 what) (A2.mk (0 : Int) (9 : Int)))) ?_
               refine Tops_step rfl (OpT_assign rfl rfl rfl rfl) ?_
               refine Tops_nil (Tk_wkS (fr' := [(2, some (vI ip2)), (3, some (.pointer (some ⟨b1, 0, none⟩))), (9, some (vU64 (u64 rp0.Size))), (11, some (vB false)), (28, some (.agg #[vI packed1, vI what])), (60, some (vB ((A2.mk packed1 what) == (A2.mk (0 : Int) (9 : Int)))))]) (own' := [some (cellsR b1 27 [vB rp0.Packed, vI rp0.Size, vU64 rp0.Desc, vU64 rp0.Driver, vU64 rp0.Device])]) (shr' := []) [2, 3, 9, 11, 28, 60] [0] [] rfl rfl rfl rfl ?_)
               rcases Bool.eq_false_or_eq_true ((A2.mk packed1 what) == (A2.mk (0 : Int) (9 : Int))) with hg14 | hg14
               ·replace h := br_t hg14 h
                refine Tk_condT (congrArg (fun b => some (Value.bool b)) hg14) ?_
                refine Tk_region (Tops_step rfl (OpT_fieldC rfl rfl rfl rfl fldF27x4) ?_)
                refine Tops_step rfl (OpT_loadC rfl rfl rfl rfl tyF22 (i := 0) rfl rfl) ?_
                refine Tops_step rfl (OpT_bin rfl rfl rfl rfl rfl (bin_add_u64 (a := rp0.Device) (b := (4 : UInt64)))) ?_
                refine Tops_step rfl (OpT_move rfl rfl rfl rfl) ?_
                refine Tops_step rfl (OpT_bin rfl rfl rfl rfl rfl (bin_mul_u64 (a := (8 : UInt64)) (b := u64 rp0.Size))) ?_
                refine Tops_step rfl (OpT_bin rfl rfl rfl rfl rfl (bin_add_u64 (a := rp0.Device + (4 : UInt64)) (b := (8 : UInt64) * (u64 rp0.Size)))) ?_
                refine Tops_step rfl (OpT_assign rfl rfl rfl rfl) ?_
                refine Tops_step rfl (OpT_assign rfl rfl rfl rfl) ?_
                refine Tops_nil (Tk_wkS (fr' := [(2, some (vI ip2)), (3, some (.pointer (some ⟨b1, 0, none⟩))), (11, some (vB false)), (6, some (vU64 ((rp0.Device + (4 : UInt64)) + ((8 : UInt64) * (u64 rp0.Size))))), (7, some (vI (2 : Int)))]) (own' := [some (cellsR b1 27 [vB rp0.Packed, vI rp0.Size, vU64 rp0.Desc, vU64 rp0.Driver, vU64 rp0.Device])]) (shr' := []) [2, 3, 11, 6, 7] [0] [] rfl rfl rfl rfl ?_)
                exact Tk_jmpS (HJ3 ((rp0.Device + (4 : UInt64)) + ((8 : UInt64) * (u64 rp0.Size)), (2 : Int)) h) [2, 3, 11, 6, 7] [0] [] rfl rfl rfl rfl
               ·replace h := br_f hg14 h
                refine Tk_condF (congrArg (fun b => some (Value.bool b)) hg14) ?_
                refine Tk_seq (Tk_region (Tops_step rfl (OpT_build (v := .agg #[vI (1 : Int), vI (10 : Int)]) rfl rfl rfl rfl (bldV (by kernel_rfl))) ?_))
                refine Tops_step rfl (OpT_bin rfl rfl rfl rfl rfl (eqT66_eql (A2.mk packed1 what) (A2.mk (1 : Int) (10 : Int)))) ?_
                refine Tops_step rfl (OpT_assign rfl rfl rfl rfl) ?_
                refine Tops_nil (Tk_wkS (fr' := [(2, some (vI ip2)), (3, some (.pointer (some ⟨b1, 0, none⟩))), (11, some (vB false)), (28, some (.agg #[vI packed1, vI what])), (69, some (vB ((A2.mk packed1 what) == (A2.mk (1 : Int) (10 : Int)))))]) (own' := [some (cellsR b1 27 [vB rp0.Packed, vI rp0.Size, vU64 rp0.Desc, vU64 rp0.Driver, vU64 rp0.Device])]) (shr' := []) [2, 3, 11, 28, 69] [0] [] rfl rfl rfl rfl ?_)
                rcases Bool.eq_false_or_eq_true ((A2.mk packed1 what) == (A2.mk (1 : Int) (10 : Int))) with hg15 | hg15
                ·replace h := br_t hg15 h
                 refine Tk_condT (congrArg (fun b => some (Value.bool b)) hg15) ?_
                 refine Tk_region (Tops_step rfl (OpT_fieldC rfl rfl rfl rfl fldF27x3) ?_)
                 refine Tops_step rfl (OpT_loadC rfl rfl rfl rfl tyF22 (i := 0) rfl rfl) ?_
                 refine Tops_step rfl (OpT_assign rfl rfl rfl rfl) ?_
                 refine Tops_step rfl (OpT_assign rfl rfl rfl rfl) ?_
                 refine Tops_nil (Tk_wkS (fr' := [(2, some (vI ip2)), (3, some (.pointer (some ⟨b1, 0, none⟩))), (11, some (vB false)), (6, some (vU64 rp0.Driver)), (7, some (vI (4 : Int)))]) (own' := [some (cellsR b1 27 [vB rp0.Packed, vI rp0.Size, vU64 rp0.Desc, vU64 rp0.Driver, vU64 rp0.Device])]) (shr' := []) [2, 3, 11, 6, 7] [0] [] rfl rfl rfl rfl ?_)
                 exact Tk_jmpS (HJ3 (rp0.Driver, (4 : Int)) h) [2, 3, 11, 6, 7] [0] [] rfl rfl rfl rfl
                ·replace h := br_f hg15 h
                 refine Tk_condF (congrArg (fun b => some (Value.bool b)) hg15) ?_
                 refine Tk_seq (Tk_region (Tops_step rfl (OpT_build (v := .agg #[vI (1 : Int), vI (11 : Int)]) rfl rfl rfl rfl (bldV (by kernel_rfl))) ?_))
                 refine Tops_step rfl (OpT_bin rfl rfl rfl rfl rfl (eqT66_eql (A2.mk packed1 what) (A2.mk (1 : Int) (11 : Int)))) ?_
                 refine Tops_step rfl (OpT_assign rfl rfl rfl rfl) ?_
                 refine Tops_nil (Tk_wkS (fr' := [(2, some (vI ip2)), (3, some (.pointer (some ⟨b1, 0, none⟩))), (11, some (vB false)), (74, some (vB ((A2.mk packed1 what) == (A2.mk (1 : Int) (11 : Int)))))]) (own' := [some (cellsR b1 27 [vB rp0.Packed, vI rp0.Size, vU64 rp0.Desc, vU64 rp0.Driver, vU64 rp0.Device])]) (shr' := []) [2, 3, 11, 74] [0] [] rfl rfl rfl rfl ?_)
                 rcases Bool.eq_false_or_eq_true ((A2.mk packed1 what) == (A2.mk (1 : Int) (11 : Int))) with hg16 | hg16
                 ·replace h := br_t hg16 h
                  refine Tk_condT (congrArg (fun b => some (Value.bool b)) hg16) ?_
                  refine Tk_region (Tops_step rfl (OpT_fieldC rfl rfl rfl rfl fldF27x4) ?_)
                  refine Tops_step rfl (OpT_loadC rfl rfl rfl rfl tyF22 (i := 0) rfl rfl) ?_
                  refine Tops_step rfl (OpT_assign rfl rfl rfl rfl) ?_
                  refine Tops_step rfl (OpT_assign rfl rfl rfl rfl) ?_
                  refine Tops_nil (Tk_wkS (fr' := [(2, some (vI ip2)), (3, some (.pointer (some ⟨b1, 0, none⟩))), (11, some (vB false)), (6, some (vU64 rp0.Device)), (7, some (vI (4 : Int)))]) (own' := [some (cellsR b1 27 [vB rp0.Packed, vI rp0.Size, vU64 rp0.Desc, vU64 rp0.Driver, vU64 rp0.Device])]) (shr' := []) [2, 3, 11, 6, 7] [0] [] rfl rfl rfl rfl ?_)
                  exact Tk_jmpS (HJ3 (rp0.Device, (4 : Int)) h) [2, 3, 11, 6, 7] [0] [] rfl rfl rfl rfl
                 ·replace h := br_f hg16 h
                  refine Tk_condF (congrArg (fun b => some (Value.bool b)) hg16) ?_
                  refine Tk_seq (Tk_region (Tops_step rfl (OpT_assign rfl rfl rfl rfl) ?_))
                  refine Tops_step rfl (OpT_assign rfl rfl rfl rfl) ?_
                  refine Tops_step rfl (OpT_assign rfl rfl rfl rfl) ?_
                  refine Tops_nil (Tk_wkS (fr' := [(6, some (vU64 (0 : UInt64))), (7, some (vI (0 : Int))), (8, some (vI (2 : Int)))]) (own' := []) (shr' := []) [6, 7, 8] [] [] rfl rfl rfl rfl ?_)
                  obtain rfl := Option.some.inj h
                  exact Tk_retV rfl rfl (resA (vs := [vU64 (0 : UInt64), vI (0 : Int), vI (2 : Int)]) rfl ⟨rfl, rfl, rfl, trivial⟩) [] [] rfl rfl rfl ⟨rfl, rfl, rfl⟩
    ·intro HJ4
     rcases Bool.eq_false_or_eq_true ((A2.mk packed1 what) == (A2.mk (0 : Int) (1 : Int))) with hg17 | hg17
     ·replace h := br_t hg17 h
      refine Tk_condT (congrArg (fun b => some (Value.bool b)) hg17) ?_
      refine Tk_skip ?_
      exact Tk_jmpS (HJ4 ((A2.mk packed1 what) == (A2.mk (0 : Int) (1 : Int))) h) [1, 2, 3, 9, 10, 11, 12, 25, 79] [0] [] rfl rfl rfl rfl
     ·replace h := br_f hg17 h
      refine Tk_condF (congrArg (fun b => some (Value.bool b)) hg17) ?_
      refine Tk_region (Tops_step rfl (OpT_build (v := .agg #[vI (1 : Int), vI (1 : Int)]) rfl rfl rfl rfl (bldV (by kernel_rfl))) ?_)
      refine Tops_step rfl (OpT_bin rfl rfl rfl rfl rfl (eqT66_eql (A2.mk packed1 what) (A2.mk (1 : Int) (1 : Int)))) ?_
      refine Tops_step rfl (OpT_assign rfl rfl rfl rfl) ?_
      refine Tops_nil (Tk_wkS (fr' := [(1, some (vI what)), (2, some (vI ip2)), (3, some (.pointer (some ⟨b1, 0, none⟩))), (9, some (vU64 (u64 rp0.Size))), (10, some (vU64 (u64 ip2))), (11, some (vB true)), (12, some (vI packed1)), (25, some (.agg #[vI packed1, vI what])), (79, some (vB ((A2.mk packed1 what) == (A2.mk (1 : Int) (1 : Int)))))]) (own' := [some (cellsR b1 27 [vB rp0.Packed, vI rp0.Size, vU64 rp0.Desc, vU64 rp0.Driver, vU64 rp0.Device])]) (shr' := []) [1, 2, 3, 9, 10, 11, 12, 25, 79] [0] [] rfl rfl rfl rfl ?_)
      exact Tk_jmpS (HJ4 ((A2.mk packed1 what) == (A2.mk (1 : Int) (1 : Int))) h) [1, 2, 3, 9, 10, 11, 12, 25, 79] [0] [] rfl rfl rfl rfl
  ·intro HJ5
   rcases Bool.eq_false_or_eq_true (rp0.Packed) with hg18 | hg18
   ·replace h := br_t hg18 h
    refine Tk_condT (congrArg (fun b => some (Value.bool b)) hg18) ?_
    refine Tk_region (Tops_step rfl (OpT_assign rfl rfl rfl rfl) ?_)
    refine Tops_nil (Tk_wkS (fr' := [(1, some (vI what)), (2, some (vI ip2)), (3, some (.pointer (some ⟨b1, 0, none⟩))), (9, some (vU64 (u64 rp0.Size))), (10, some (vU64 (u64 ip2))), (11, some (vB true)), (12, some (vI (1 : Int)))]) (own' := [some (cellsR b1 27 [vB rp0.Packed, vI rp0.Size, vU64 rp0.Desc, vU64 rp0.Driver, vU64 rp0.Device])]) (shr' := []) [1, 2, 3, 9, 10, 11, 12] [0] [] rfl rfl rfl rfl ?_)
    exact Tk_jmpS (HJ5 (1 : Int) h) [1, 2, 3, 9, 10, 11, 12] [0] [] rfl rfl rfl rfl
   ·replace h := br_f hg18 h
    refine Tk_condF (congrArg (fun b => some (Value.bool b)) hg18) ?_
    refine Tk_skip ?_
    exact Tk_jmpS (HJ5 (0 : Int) h) [1, 2, 3, 9, 10, 11, 12] [0] [] rfl rfl rfl rfl

set_option maxRecDepth 100000 in
set_option maxHeartbeats 4000000 in
theorem w_law04zlives  {r : Bool} (h : law04zlives = some r) :
  Ctr Try.prog 8 #[] [] []
   (fun rv own shr => rv = vB r ∧ own = [] ∧ shr = []) := by
 unfold law04zlives at h
 refine Ctr.mk (args := []) Try.func8 rfl rfl (fun R0 w0 B => ?_)
 refine Tk_seq (Tk_region (Tops_step rfl (OpT_assign rfl rfl rfl rfl) ?_))
 refine Tops_nil (Tk_wkS (fr' := []) (own' := []) (shr' := []) [] [] [] rfl rfl rfl rfl ?_)
 refine Tk_seq (Tk_region ?_)
 obtain ⟨place1, hx1, h⟩ := ob_e h
 refine Tops_exP rfl (OpT_call (w_layout_Place hx1) [] [] rfl rfl rfl rfl rfl callee10 rfl rfl rfl rfl) ?_
 rintro _ ⟨_, _, _, ⟨rfl, rfl, rfl⟩, rfl⟩
 refine Tops_step rfl (OpT_move rfl rfl rfl rfl) ?_
 refine Tops_step rfl (OpT_extract rfl rfl rfl rfl rfl) ?_
 refine Tops_step rfl (OpT_extract rfl rfl rfl rfl rfl) ?_
 refine Tops_step rfl (OpT_extract rfl rfl rfl rfl rfl) ?_
 refine Tops_ex rfl (OpT_alloc rfl rfl rfl tyZ27) fun b1 => ?_
 refine Tops_step rfl (OpT_storeC (cs' := [vB place1.1.Packed, vI place1.1.Size, vU64 place1.1.Desc, vU64 place1.1.Driver, vU64 place1.1.Device]) rfl rfl rfl rfl tyF27 (i := 0) rfl rfl rfl (one_of rfl) rfl) ?_
 refine Tops_step rfl (OpT_assign rfl rfl rfl rfl) ?_
 refine Tops_step rfl (OpT_assign rfl rfl rfl rfl) ?_
 refine Tops_nil (Tk_wkS (fr' := [(1, some (.pointer (some ⟨b1, 0, none⟩))), (2, some (vU64 place1.2.1)), (3, some (vI place1.2.2))]) (own' := [some (cellsR b1 27 [vB place1.1.Packed, vI place1.1.Size, vU64 place1.1.Desc, vU64 place1.1.Driver, vU64 place1.1.Device])]) (shr' := []) [1, 2, 3] [0] [] rfl rfl rfl rfl ?_)
 refine Tk_seq (Tk_region (Tops_step rfl (OpT_loadCA (vs := [vB place1.1.Packed, vI place1.1.Size, vU64 place1.1.Desc, vU64 place1.1.Driver, vU64 place1.1.Device]) rfl rfl rfl rfl tyF27 (i := 0) rfl rfl rfl) ?_))
 obtain ⟨where1, hx2, h⟩ := ob_e h
 refine Tops_exP rfl (OpT_call (w_layout_Where hx2) [] [] rfl rfl rfl rfl rfl callee12 rfl rfl rfl rfl) ?_
 rintro _ ⟨_, _, _, ⟨rfl, rfl, rfl⟩, rfl⟩
 refine Tops_step rfl (OpT_move rfl rfl rfl rfl) ?_
 refine Tops_step rfl (OpT_extract rfl rfl rfl rfl rfl) ?_
 refine Tops_step rfl (OpT_extract rfl rfl rfl rfl rfl) ?_
 refine Tops_step rfl (OpT_extract rfl rfl rfl rfl rfl) ?_
 refine Tops_step rfl (OpT_assign rfl rfl rfl rfl) ?_
 refine Tops_step rfl (OpT_assign rfl rfl rfl rfl) ?_
 refine Tops_step rfl (OpT_assign rfl rfl rfl rfl) ?_
 refine Tops_nil (Tk_wkS (fr' := [(1, some (.pointer (some ⟨b1, 0, none⟩))), (2, some (vU64 place1.2.1)), (3, some (vI place1.2.2)), (4, some (vU64 where1.1)), (5, some (vI where1.2.1)), (6, some (vI where1.2.2))]) (own' := [some (cellsR b1 27 [vB place1.1.Packed, vI place1.1.Size, vU64 place1.1.Desc, vU64 place1.1.Driver, vU64 place1.1.Device])]) (shr' := []) [1, 2, 3, 4, 5, 6] [0] [] rfl rfl rfl rfl ?_)
 refine Tk_seq (Tk_region (Tops_step rfl (OpT_loadCA (vs := [vB place1.1.Packed, vI place1.1.Size, vU64 place1.1.Desc, vU64 place1.1.Driver, vU64 place1.1.Device]) rfl rfl rfl rfl tyF27 (i := 0) rfl rfl rfl) ?_))
 obtain ⟨where2, hx3, h⟩ := ob_e h
 refine Tops_exP rfl (OpT_call (w_layout_Where hx3) [] [] rfl rfl rfl rfl rfl callee12 rfl rfl rfl rfl) ?_
 rintro _ ⟨_, _, _, ⟨rfl, rfl, rfl⟩, rfl⟩
 refine Tops_step rfl (OpT_move rfl rfl rfl rfl) ?_
 refine Tops_step rfl (OpT_extract rfl rfl rfl rfl rfl) ?_
 refine Tops_step rfl (OpT_extract rfl rfl rfl rfl rfl) ?_
 refine Tops_step rfl (OpT_extract rfl rfl rfl rfl rfl) ?_
 refine Tops_step rfl (OpT_assign rfl rfl rfl rfl) ?_
 refine Tops_step rfl (OpT_assign rfl rfl rfl rfl) ?_
 refine Tops_step rfl (OpT_assign rfl rfl rfl rfl) ?_
 refine Tops_nil (Tk_wkS (fr' := [(1, some (.pointer (some ⟨b1, 0, none⟩))), (2, some (vU64 place1.2.1)), (3, some (vI place1.2.2)), (4, some (vU64 where1.1)), (5, some (vI where1.2.1)), (6, some (vI where1.2.2)), (7, some (vU64 where2.1)), (8, some (vI where2.2.1)), (9, some (vI where2.2.2))]) (own' := [some (cellsR b1 27 [vB place1.1.Packed, vI place1.1.Size, vU64 place1.1.Desc, vU64 place1.1.Driver, vU64 place1.1.Device])]) (shr' := []) [1, 2, 3, 4, 5, 6, 7, 8, 9] [0] [] rfl rfl rfl rfl ?_)
 refine Tk_seq (Tk_region (Tops_step rfl (OpT_move rfl rfl rfl rfl) ?_))
 refine Tops_step rfl (OpT_bin rfl rfl rfl rfl rfl (bin_eql_i (a := place1.2.2) (b := (0 : Int)))) ?_
 refine Tops_step rfl (OpT_move rfl rfl rfl rfl) ?_
 rcases Bool.eq_false_or_eq_true (place1.2.2 == (0 : Int)) with hg1 | hg1
 ·replace h := br_t hg1 h
  refine Tops_yes rfl rfl (congrArg (fun b => some (Value.bool b)) hg1) (OpT_loadCA (vs := [vB place1.1.Packed, vI place1.1.Size, vU64 place1.1.Desc, vU64 place1.1.Driver, vU64 place1.1.Device]) rfl rfl rfl rfl tyF27 (i := 0) rfl rfl rfl) ?_
  rintro _ rfl
  refine Tops_yes rfl rfl (congrArg (fun b => some (Value.bool b)) hg1) (OpT_build (v := .agg #[vB false, vI (4 : Int), vU64 (112 : UInt64), vU64 (176 : UInt64), vU64 (192 : UInt64)]) rfl rfl rfl rfl (bldV (by kernel_rfl))) ?_
  rintro _ rfl
  refine Tops_yes rfl rfl (congrArg (fun b => some (Value.bool b)) hg1) (OpT_bin rfl rfl rfl rfl rfl (eqT27_eql place1.1 (Rings.mk false (4 : Int) (112 : UInt64) (176 : UInt64) (192 : UInt64)))) ?_
  rintro _ rfl
  refine Tops_step rfl (OpT_pickT rfl rfl rfl (congrArg (fun b => some (Value.bool b)) hg1) rfl) ?_
  refine Tops_step rfl (OpT_move rfl rfl rfl rfl) ?_
  rcases Bool.eq_false_or_eq_true (place1.1 == (Rings.mk false (4 : Int) (112 : UInt64) (176 : UInt64) (192 : UInt64))) with hg2 | hg2
  ·replace h := br_t hg2 h
   refine Tops_yes rfl rfl (congrArg (fun b => some (Value.bool b)) hg2) (OpT_move rfl rfl rfl rfl) ?_
   rintro _ rfl
   refine Tops_yes rfl rfl (congrArg (fun b => some (Value.bool b)) hg2) (OpT_bin rfl rfl rfl rfl rfl (bin_eql_u64 (a := place1.2.1) (b := (130 : UInt64)))) ?_
   rintro _ rfl
   refine Tops_step rfl (OpT_pickT rfl rfl rfl (congrArg (fun b => some (Value.bool b)) hg2) rfl) ?_
   refine Tops_step rfl (OpT_move rfl rfl rfl rfl) ?_
   rcases Bool.eq_false_or_eq_true (place1.2.1 == (130 : UInt64)) with hg3 | hg3
   ·replace h := br_t hg3 h
    refine Tops_yes rfl rfl (congrArg (fun b => some (Value.bool b)) hg3) (OpT_move rfl rfl rfl rfl) ?_
    rintro _ rfl
    refine Tops_yes rfl rfl (congrArg (fun b => some (Value.bool b)) hg3) (OpT_bin rfl rfl rfl rfl rfl (bin_eql_i (a := where1.2.2) (b := (0 : Int)))) ?_
    rintro _ rfl
    refine Tops_step rfl (OpT_pickT rfl rfl rfl (congrArg (fun b => some (Value.bool b)) hg3) rfl) ?_
    refine Tops_step rfl (OpT_move rfl rfl rfl rfl) ?_
    rcases Bool.eq_false_or_eq_true (where1.2.2 == (0 : Int)) with hg4 | hg4
    ·replace h := br_t hg4 h
     refine Tops_yes rfl rfl (congrArg (fun b => some (Value.bool b)) hg4) (OpT_move rfl rfl rfl rfl) ?_
     rintro _ rfl
     refine Tops_yes rfl rfl (congrArg (fun b => some (Value.bool b)) hg4) (OpT_bin rfl rfl rfl rfl rfl (bin_eql_u64 (a := where1.1) (b := (186 : UInt64)))) ?_
     rintro _ rfl
     refine Tops_step rfl (OpT_pickT rfl rfl rfl (congrArg (fun b => some (Value.bool b)) hg4) rfl) ?_
     refine Tops_step rfl (OpT_move rfl rfl rfl rfl) ?_
     rcases Bool.eq_false_or_eq_true (where1.1 == (186 : UInt64)) with hg5 | hg5
     ·replace h := br_t hg5 h
      refine Tops_yes rfl rfl (congrArg (fun b => some (Value.bool b)) hg5) (OpT_move rfl rfl rfl rfl) ?_
      rintro _ rfl
      refine Tops_yes rfl rfl (congrArg (fun b => some (Value.bool b)) hg5) (OpT_bin rfl rfl rfl rfl rfl (bin_eql_i (a := where1.2.1) (b := (2 : Int)))) ?_
      rintro _ rfl
      refine Tops_step rfl (OpT_pickT rfl rfl rfl (congrArg (fun b => some (Value.bool b)) hg5) rfl) ?_
      refine Tops_step rfl (OpT_move rfl rfl rfl rfl) ?_
      rcases Bool.eq_false_or_eq_true (where1.2.1 == (2 : Int)) with hg6 | hg6
      ·replace h := br_t hg6 h
       refine Tops_yes rfl rfl (congrArg (fun b => some (Value.bool b)) hg6) (OpT_move rfl rfl rfl rfl) ?_
       rintro _ rfl
       refine Tops_yes rfl rfl (congrArg (fun b => some (Value.bool b)) hg6) (OpT_bin rfl rfl rfl rfl rfl (bin_eql_i (a := where2.2.2) (b := (0 : Int)))) ?_
       rintro _ rfl
       refine Tops_step rfl (OpT_pickT rfl rfl rfl (congrArg (fun b => some (Value.bool b)) hg6) rfl) ?_
       refine Tops_step rfl (OpT_move rfl rfl rfl rfl) ?_
       rcases Bool.eq_false_or_eq_true (where2.2.2 == (0 : Int)) with hg7 | hg7
       ·replace h := br_t hg7 h
        refine Tops_yes rfl rfl (congrArg (fun b => some (Value.bool b)) hg7) (OpT_move rfl rfl rfl rfl) ?_
        rintro _ rfl
        refine Tops_yes rfl rfl (congrArg (fun b => some (Value.bool b)) hg7) (OpT_bin rfl rfl rfl rfl rfl (bin_eql_u64 (a := where2.1) (b := (204 : UInt64)))) ?_
        rintro _ rfl
        refine Tops_step rfl (OpT_pickT rfl rfl rfl (congrArg (fun b => some (Value.bool b)) hg7) rfl) ?_
        refine Tops_step rfl (OpT_move rfl rfl rfl rfl) ?_
        rcases Bool.eq_false_or_eq_true (where2.1 == (204 : UInt64)) with hg8 | hg8
        ·replace h := br_t hg8 h
         refine Tops_yes rfl rfl (congrArg (fun b => some (Value.bool b)) hg8) (OpT_move rfl rfl rfl rfl) ?_
         rintro _ rfl
         refine Tops_yes rfl rfl (congrArg (fun b => some (Value.bool b)) hg8) (OpT_bin rfl rfl rfl rfl rfl (bin_eql_i (a := where2.2.1) (b := (8 : Int)))) ?_
         rintro _ rfl
         refine Tops_step rfl (OpT_pickT rfl rfl rfl (congrArg (fun b => some (Value.bool b)) hg8) rfl) ?_
         refine Tops_step rfl (OpT_assign rfl rfl rfl rfl) ?_
         refine Tops_nil (Tk_wkS (fr' := [(0, some (vB (where2.2.1 == (8 : Int))))]) (own' := []) (shr' := []) [0] [] [] rfl rfl rfl rfl ?_)
         obtain rfl := Option.some.inj h
         exact Tk_retV rfl rfl (resA (vs := [vB (where2.2.1 == (8 : Int))]) rfl ⟨rfl, trivial⟩) [] [] rfl rfl rfl ⟨rfl, rfl, rfl⟩
        ·replace h := br_f hg8 h
         refine Tops_no rfl rfl (congrArg (fun b => some (Value.bool b)) hg8) rfl rfl ?_
         refine Tops_no rfl rfl (congrArg (fun b => some (Value.bool b)) hg8) rfl rfl ?_
         refine Tops_step rfl (OpT_pickF rfl rfl rfl (congrArg (fun b => some (Value.bool b)) hg8) rfl) ?_
         refine Tops_step rfl (OpT_assign rfl rfl rfl rfl) ?_
         refine Tops_nil (Tk_wkS (fr' := [(0, some (vB false))]) (own' := []) (shr' := []) [0] [] [] rfl rfl rfl rfl ?_)
         obtain rfl := Option.some.inj h
         exact Tk_retV rfl rfl (resA (vs := [vB false]) rfl ⟨rfl, trivial⟩) [] [] rfl rfl rfl ⟨rfl, rfl, rfl⟩
       ·replace h := br_f hg7 h
        refine Tops_no rfl rfl (congrArg (fun b => some (Value.bool b)) hg7) rfl rfl ?_
        refine Tops_no rfl rfl (congrArg (fun b => some (Value.bool b)) hg7) rfl rfl ?_
        refine Tops_step rfl (OpT_pickF rfl rfl rfl (congrArg (fun b => some (Value.bool b)) hg7) rfl) ?_
        refine Tops_step rfl (OpT_move rfl rfl rfl rfl) ?_
        refine Tops_no rfl rfl rfl rfl rfl ?_
        refine Tops_no rfl rfl rfl rfl rfl ?_
        refine Tops_step rfl (OpT_pickF rfl rfl rfl rfl rfl) ?_
        refine Tops_step rfl (OpT_assign rfl rfl rfl rfl) ?_
        refine Tops_nil (Tk_wkS (fr' := [(0, some (vB false))]) (own' := []) (shr' := []) [0] [] [] rfl rfl rfl rfl ?_)
        obtain rfl := Option.some.inj h
        exact Tk_retV rfl rfl (resA (vs := [vB false]) rfl ⟨rfl, trivial⟩) [] [] rfl rfl rfl ⟨rfl, rfl, rfl⟩
      ·replace h := br_f hg6 h
       refine Tops_no rfl rfl (congrArg (fun b => some (Value.bool b)) hg6) rfl rfl ?_
       refine Tops_no rfl rfl (congrArg (fun b => some (Value.bool b)) hg6) rfl rfl ?_
       refine Tops_step rfl (OpT_pickF rfl rfl rfl (congrArg (fun b => some (Value.bool b)) hg6) rfl) ?_
       refine Tops_step rfl (OpT_move rfl rfl rfl rfl) ?_
       refine Tops_no rfl rfl rfl rfl rfl ?_
       refine Tops_no rfl rfl rfl rfl rfl ?_
       refine Tops_step rfl (OpT_pickF rfl rfl rfl rfl rfl) ?_
       refine Tops_step rfl (OpT_move rfl rfl rfl rfl) ?_
       refine Tops_no rfl rfl rfl rfl rfl ?_
       refine Tops_no rfl rfl rfl rfl rfl ?_
       refine Tops_step rfl (OpT_pickF rfl rfl rfl rfl rfl) ?_
       refine Tops_step rfl (OpT_assign rfl rfl rfl rfl) ?_
       refine Tops_nil (Tk_wkS (fr' := [(0, some (vB false))]) (own' := []) (shr' := []) [0] [] [] rfl rfl rfl rfl ?_)
       obtain rfl := Option.some.inj h
       exact Tk_retV rfl rfl (resA (vs := [vB false]) rfl ⟨rfl, trivial⟩) [] [] rfl rfl rfl ⟨rfl, rfl, rfl⟩
     ·replace h := br_f hg5 h
      refine Tops_no rfl rfl (congrArg (fun b => some (Value.bool b)) hg5) rfl rfl ?_
      refine Tops_no rfl rfl (congrArg (fun b => some (Value.bool b)) hg5) rfl rfl ?_
      refine Tops_step rfl (OpT_pickF rfl rfl rfl (congrArg (fun b => some (Value.bool b)) hg5) rfl) ?_
      refine Tops_step rfl (OpT_move rfl rfl rfl rfl) ?_
      refine Tops_no rfl rfl rfl rfl rfl ?_
      refine Tops_no rfl rfl rfl rfl rfl ?_
      refine Tops_step rfl (OpT_pickF rfl rfl rfl rfl rfl) ?_
      refine Tops_step rfl (OpT_move rfl rfl rfl rfl) ?_
      refine Tops_no rfl rfl rfl rfl rfl ?_
      refine Tops_no rfl rfl rfl rfl rfl ?_
      refine Tops_step rfl (OpT_pickF rfl rfl rfl rfl rfl) ?_
      refine Tops_step rfl (OpT_move rfl rfl rfl rfl) ?_
      refine Tops_no rfl rfl rfl rfl rfl ?_
      refine Tops_no rfl rfl rfl rfl rfl ?_
      refine Tops_step rfl (OpT_pickF rfl rfl rfl rfl rfl) ?_
      refine Tops_step rfl (OpT_assign rfl rfl rfl rfl) ?_
      refine Tops_nil (Tk_wkS (fr' := [(0, some (vB false))]) (own' := []) (shr' := []) [0] [] [] rfl rfl rfl rfl ?_)
      obtain rfl := Option.some.inj h
      exact Tk_retV rfl rfl (resA (vs := [vB false]) rfl ⟨rfl, trivial⟩) [] [] rfl rfl rfl ⟨rfl, rfl, rfl⟩
    ·replace h := br_f hg4 h
     refine Tops_no rfl rfl (congrArg (fun b => some (Value.bool b)) hg4) rfl rfl ?_
     refine Tops_no rfl rfl (congrArg (fun b => some (Value.bool b)) hg4) rfl rfl ?_
     refine Tops_step rfl (OpT_pickF rfl rfl rfl (congrArg (fun b => some (Value.bool b)) hg4) rfl) ?_
     refine Tops_step rfl (OpT_move rfl rfl rfl rfl) ?_
     refine Tops_no rfl rfl rfl rfl rfl ?_
     refine Tops_no rfl rfl rfl rfl rfl ?_
     refine Tops_step rfl (OpT_pickF rfl rfl rfl rfl rfl) ?_
     refine Tops_step rfl (OpT_move rfl rfl rfl rfl) ?_
     refine Tops_no rfl rfl rfl rfl rfl ?_
     refine Tops_no rfl rfl rfl rfl rfl ?_
     refine Tops_step rfl (OpT_pickF rfl rfl rfl rfl rfl) ?_
     refine Tops_step rfl (OpT_move rfl rfl rfl rfl) ?_
     refine Tops_no rfl rfl rfl rfl rfl ?_
     refine Tops_no rfl rfl rfl rfl rfl ?_
     refine Tops_step rfl (OpT_pickF rfl rfl rfl rfl rfl) ?_
     refine Tops_step rfl (OpT_move rfl rfl rfl rfl) ?_
     refine Tops_no rfl rfl rfl rfl rfl ?_
     refine Tops_no rfl rfl rfl rfl rfl ?_
     refine Tops_step rfl (OpT_pickF rfl rfl rfl rfl rfl) ?_
     refine Tops_step rfl (OpT_assign rfl rfl rfl rfl) ?_
     refine Tops_nil (Tk_wkS (fr' := [(0, some (vB false))]) (own' := []) (shr' := []) [0] [] [] rfl rfl rfl rfl ?_)
     obtain rfl := Option.some.inj h
     exact Tk_retV rfl rfl (resA (vs := [vB false]) rfl ⟨rfl, trivial⟩) [] [] rfl rfl rfl ⟨rfl, rfl, rfl⟩
   ·replace h := br_f hg3 h
    refine Tops_no rfl rfl (congrArg (fun b => some (Value.bool b)) hg3) rfl rfl ?_
    refine Tops_no rfl rfl (congrArg (fun b => some (Value.bool b)) hg3) rfl rfl ?_
    refine Tops_step rfl (OpT_pickF rfl rfl rfl (congrArg (fun b => some (Value.bool b)) hg3) rfl) ?_
    refine Tops_step rfl (OpT_move rfl rfl rfl rfl) ?_
    refine Tops_no rfl rfl rfl rfl rfl ?_
    refine Tops_no rfl rfl rfl rfl rfl ?_
    refine Tops_step rfl (OpT_pickF rfl rfl rfl rfl rfl) ?_
    refine Tops_step rfl (OpT_move rfl rfl rfl rfl) ?_
    refine Tops_no rfl rfl rfl rfl rfl ?_
    refine Tops_no rfl rfl rfl rfl rfl ?_
    refine Tops_step rfl (OpT_pickF rfl rfl rfl rfl rfl) ?_
    refine Tops_step rfl (OpT_move rfl rfl rfl rfl) ?_
    refine Tops_no rfl rfl rfl rfl rfl ?_
    refine Tops_no rfl rfl rfl rfl rfl ?_
    refine Tops_step rfl (OpT_pickF rfl rfl rfl rfl rfl) ?_
    refine Tops_step rfl (OpT_move rfl rfl rfl rfl) ?_
    refine Tops_no rfl rfl rfl rfl rfl ?_
    refine Tops_no rfl rfl rfl rfl rfl ?_
    refine Tops_step rfl (OpT_pickF rfl rfl rfl rfl rfl) ?_
    refine Tops_step rfl (OpT_move rfl rfl rfl rfl) ?_
    refine Tops_no rfl rfl rfl rfl rfl ?_
    refine Tops_no rfl rfl rfl rfl rfl ?_
    refine Tops_step rfl (OpT_pickF rfl rfl rfl rfl rfl) ?_
    refine Tops_step rfl (OpT_assign rfl rfl rfl rfl) ?_
    refine Tops_nil (Tk_wkS (fr' := [(0, some (vB false))]) (own' := []) (shr' := []) [0] [] [] rfl rfl rfl rfl ?_)
    obtain rfl := Option.some.inj h
    exact Tk_retV rfl rfl (resA (vs := [vB false]) rfl ⟨rfl, trivial⟩) [] [] rfl rfl rfl ⟨rfl, rfl, rfl⟩
  ·replace h := br_f hg2 h
   refine Tops_no rfl rfl (congrArg (fun b => some (Value.bool b)) hg2) rfl rfl ?_
   refine Tops_no rfl rfl (congrArg (fun b => some (Value.bool b)) hg2) rfl rfl ?_
   refine Tops_step rfl (OpT_pickF rfl rfl rfl (congrArg (fun b => some (Value.bool b)) hg2) rfl) ?_
   refine Tops_step rfl (OpT_move rfl rfl rfl rfl) ?_
   refine Tops_no rfl rfl rfl rfl rfl ?_
   refine Tops_no rfl rfl rfl rfl rfl ?_
   refine Tops_step rfl (OpT_pickF rfl rfl rfl rfl rfl) ?_
   refine Tops_step rfl (OpT_move rfl rfl rfl rfl) ?_
   refine Tops_no rfl rfl rfl rfl rfl ?_
   refine Tops_no rfl rfl rfl rfl rfl ?_
   refine Tops_step rfl (OpT_pickF rfl rfl rfl rfl rfl) ?_
   refine Tops_step rfl (OpT_move rfl rfl rfl rfl) ?_
   refine Tops_no rfl rfl rfl rfl rfl ?_
   refine Tops_no rfl rfl rfl rfl rfl ?_
   refine Tops_step rfl (OpT_pickF rfl rfl rfl rfl rfl) ?_
   refine Tops_step rfl (OpT_move rfl rfl rfl rfl) ?_
   refine Tops_no rfl rfl rfl rfl rfl ?_
   refine Tops_no rfl rfl rfl rfl rfl ?_
   refine Tops_step rfl (OpT_pickF rfl rfl rfl rfl rfl) ?_
   refine Tops_step rfl (OpT_move rfl rfl rfl rfl) ?_
   refine Tops_no rfl rfl rfl rfl rfl ?_
   refine Tops_no rfl rfl rfl rfl rfl ?_
   refine Tops_step rfl (OpT_pickF rfl rfl rfl rfl rfl) ?_
   refine Tops_step rfl (OpT_move rfl rfl rfl rfl) ?_
   refine Tops_no rfl rfl rfl rfl rfl ?_
   refine Tops_no rfl rfl rfl rfl rfl ?_
   refine Tops_step rfl (OpT_pickF rfl rfl rfl rfl rfl) ?_
   refine Tops_step rfl (OpT_assign rfl rfl rfl rfl) ?_
   refine Tops_nil (Tk_wkS (fr' := [(0, some (vB false))]) (own' := []) (shr' := []) [0] [] [] rfl rfl rfl rfl ?_)
   obtain rfl := Option.some.inj h
   exact Tk_retV rfl rfl (resA (vs := [vB false]) rfl ⟨rfl, trivial⟩) [] [] rfl rfl rfl ⟨rfl, rfl, rfl⟩
 ·replace h := br_f hg1 h
  refine Tops_no rfl rfl (congrArg (fun b => some (Value.bool b)) hg1) rfl rfl ?_
  refine Tops_no rfl rfl (congrArg (fun b => some (Value.bool b)) hg1) rfl rfl ?_
  refine Tops_no rfl rfl (congrArg (fun b => some (Value.bool b)) hg1) rfl rfl ?_
  refine Tops_step rfl (OpT_pickF rfl rfl rfl (congrArg (fun b => some (Value.bool b)) hg1) rfl) ?_
  refine Tops_step rfl (OpT_move rfl rfl rfl rfl) ?_
  refine Tops_no rfl rfl rfl rfl rfl ?_
  refine Tops_no rfl rfl rfl rfl rfl ?_
  refine Tops_step rfl (OpT_pickF rfl rfl rfl rfl rfl) ?_
  refine Tops_step rfl (OpT_move rfl rfl rfl rfl) ?_
  refine Tops_no rfl rfl rfl rfl rfl ?_
  refine Tops_no rfl rfl rfl rfl rfl ?_
  refine Tops_step rfl (OpT_pickF rfl rfl rfl rfl rfl) ?_
  refine Tops_step rfl (OpT_move rfl rfl rfl rfl) ?_
  refine Tops_no rfl rfl rfl rfl rfl ?_
  refine Tops_no rfl rfl rfl rfl rfl ?_
  refine Tops_step rfl (OpT_pickF rfl rfl rfl rfl rfl) ?_
  refine Tops_step rfl (OpT_move rfl rfl rfl rfl) ?_
  refine Tops_no rfl rfl rfl rfl rfl ?_
  refine Tops_no rfl rfl rfl rfl rfl ?_
  refine Tops_step rfl (OpT_pickF rfl rfl rfl rfl rfl) ?_
  refine Tops_step rfl (OpT_move rfl rfl rfl rfl) ?_
  refine Tops_no rfl rfl rfl rfl rfl ?_
  refine Tops_no rfl rfl rfl rfl rfl ?_
  refine Tops_step rfl (OpT_pickF rfl rfl rfl rfl rfl) ?_
  refine Tops_step rfl (OpT_move rfl rfl rfl rfl) ?_
  refine Tops_no rfl rfl rfl rfl rfl ?_
  refine Tops_no rfl rfl rfl rfl rfl ?_
  refine Tops_step rfl (OpT_pickF rfl rfl rfl rfl rfl) ?_
  refine Tops_step rfl (OpT_move rfl rfl rfl rfl) ?_
  refine Tops_no rfl rfl rfl rfl rfl ?_
  refine Tops_no rfl rfl rfl rfl rfl ?_
  refine Tops_step rfl (OpT_pickF rfl rfl rfl rfl rfl) ?_
  refine Tops_step rfl (OpT_assign rfl rfl rfl rfl) ?_
  refine Tops_nil (Tk_wkS (fr' := [(0, some (vB false))]) (own' := []) (shr' := []) [0] [] [] rfl rfl rfl rfl ?_)
  obtain rfl := Option.some.inj h
  exact Tk_retV rfl rfl (resA (vs := [vB false]) rfl ⟨rfl, trivial⟩) [] [] rfl rfl rfl ⟨rfl, rfl, rfl⟩

set_option maxRecDepth 100000 in
set_option maxHeartbeats 4000000 in
theorem w_kit_Pick {np0 : Int} {m : Int} {r : Int} (h : kit_Pick np0 m = some r) :
  Ctr Try.prog 9 #[vI np0, vI m] [] []
   (fun rv own shr => rv = vI r ∧ own = [] ∧ shr = []) := by
 unfold kit_Pick at h
 refine Ctr.mk (args := [vI np0, vI m]) Try.func9 rfl rfl (fun R0 w0 B => ?_)
 refine Tk_seq (Tk_region (Tops_step rfl (OpT_assign rfl rfl rfl rfl) ?_))
 refine Tops_nil (Tk_wkS (fr' := [(0, some (vI np0)), (1, some (vI m))]) (own' := []) (shr' := []) [0, 1] [] [] rfl rfl rfl rfl ?_)
 refine Tk_seq (Tk_seq (Tk_region (Tops_step rfl (OpT_move rfl rfl rfl rfl) ?_)))
 refine Tops_step rfl (OpT_bin rfl rfl rfl rfl rfl (bin_lss_i (a := m) (b := (1 : Int)))) ?_
 refine Tops_nil (Tk_wkS (fr' := [(0, some (vI np0)), (1, some (vI m)), (6, some (vB (decide (m < (1 : Int)))))]) (own' := []) (shr' := []) [0, 1, 6] [] [] rfl rfl rfl rfl ?_)
 rcases Bool.eq_false_or_eq_true (decide (m < (1 : Int))) with hg1 | hg1
 ·replace h := br_t hg1 h
  refine Tk_condT (congrArg (fun b => some (Value.bool b)) hg1) ?_
  refine Tk_seq (Tk_region (Tops_step rfl (OpT_assign rfl rfl rfl rfl) ?_))
  refine Tops_nil (Tk_wkS (fr' := [(4, some (vI (0 : Int)))]) (own' := []) (shr' := []) [4] [] [] rfl rfl rfl rfl ?_)
  obtain rfl := Option.some.inj h
  exact Tk_retV rfl rfl (resA (vs := [vI (0 : Int)]) rfl ⟨rfl, trivial⟩) [] [] rfl rfl rfl ⟨rfl, rfl, rfl⟩
 ·replace h := br_f hg1 h
  refine Tk_condF (congrArg (fun b => some (Value.bool b)) hg1) ?_
  refine Tk_skip (Tk_seq (Tk_region (Tops_step rfl (OpT_move rfl rfl rfl rfl) ?_)))
  refine Tops_step rfl (OpT_move rfl rfl rfl rfl) ?_
  obtain ⟨hc1, h⟩ := chk_e h
  refine Tops_step rfl (OpT_bin rfl rfl rfl rfl rfl (bin_rem_i (a := np0) (b := m) (not_t hc1))) ?_
  refine Tops_step rfl (OpT_assign rfl rfl rfl rfl) ?_
  refine Tops_nil (Tk_wkS (fr' := [(0, some (vI (remi np0 m))), (1, some (vI m))]) (own' := []) (shr' := []) [0, 1] [] [] rfl rfl rfl rfl ?_)
  refine Tk_seq (Tk_seq (Tk_region (Tops_step rfl (OpT_move rfl rfl rfl rfl) ?_)))
  refine Tops_step rfl (OpT_bin rfl rfl rfl rfl rfl (bin_lss_i (a := remi np0 m) (b := (0 : Int)))) ?_
  refine Tops_nil (Tk_wkS (fr' := [(0, some (vI (remi np0 m))), (1, some (vI m)), (11, some (vB (decide ((remi np0 m) < (0 : Int)))))]) (own' := []) (shr' := []) [0, 1, 11] [] [] rfl rfl rfl rfl ?_)
  rcases Bool.eq_false_or_eq_true (decide ((remi np0 m) < (0 : Int))) with hg2 | hg2
  ·replace h := br_t hg2 h
   refine Tk_condT (congrArg (fun b => some (Value.bool b)) hg2) ?_
   refine Tk_region (Tops_step rfl (OpT_move rfl rfl rfl rfl) ?_)
   refine Tops_step rfl (OpT_move rfl rfl rfl rfl) ?_
   refine Tops_step rfl (OpT_bin rfl rfl rfl rfl rfl (bin_add_i (a := remi np0 m) (b := m))) ?_
   refine Tops_step rfl (OpT_assign rfl rfl rfl rfl) ?_
   refine Tops_nil (Tk_wkS (fr' := [(0, some (vI (wi ((remi np0 m) + m))))]) (own' := []) (shr' := []) [0] [] [] rfl rfl rfl rfl ?_)
   refine Tk_seq (Tk_region (Tops_step rfl (OpT_move rfl rfl rfl rfl) ?_))
   refine Tops_step rfl (OpT_assign rfl rfl rfl rfl) ?_
   refine Tops_nil (Tk_wkS (fr' := [(4, some (vI (wi ((remi np0 m) + m))))]) (own' := []) (shr' := []) [4] [] [] rfl rfl rfl rfl ?_)
   obtain rfl := Option.some.inj h
   exact Tk_retV rfl rfl (resA (vs := [vI (wi ((remi np0 m) + m))]) rfl ⟨rfl, trivial⟩) [] [] rfl rfl rfl ⟨rfl, rfl, rfl⟩
  ·replace h := br_f hg2 h
   refine Tk_condF (congrArg (fun b => some (Value.bool b)) hg2) ?_
   refine Tk_skip (Tk_seq (Tk_region (Tops_step rfl (OpT_move rfl rfl rfl rfl) ?_)))
   refine Tops_step rfl (OpT_assign rfl rfl rfl rfl) ?_
   refine Tops_nil (Tk_wkS (fr' := [(4, some (vI (remi np0 m)))]) (own' := []) (shr' := []) [4] [] [] rfl rfl rfl rfl ?_)
   obtain rfl := Option.some.inj h
   exact Tk_retV rfl rfl (resA (vs := [vI (remi np0 m)]) rfl ⟨rfl, trivial⟩) [] [] rfl rfl rfl ⟨rfl, rfl, rfl⟩

set_option maxRecDepth 100000 in
set_option maxHeartbeats 4000000 in
theorem w_law04zLayoutApart_1 {wp0 : Int} {r : Bool} (h : law04zLayoutApart_1 wp0 = some r) :
  Ctr Try.prog 14 #[vI wp0] [] []
   (fun rv own shr => rv = vB r ∧ own = [] ∧ shr = []) := by
 unfold law04zLayoutApart_1 at h
 refine Ctr.mk (args := [vI wp0]) Try.func14 rfl rfl (fun R0 w0 B => ?_)
 refine Tk_seq (Tk_region (Tops_step rfl (OpT_assign rfl rfl rfl rfl) ?_))
 refine Tops_nil (Tk_wkS (fr' := [(0, some (vI wp0))]) (own' := []) (shr' := []) [0] [] [] rfl rfl rfl rfl ?_)
 refine Tk_seq (Tk_region (Tops_step rfl (OpT_move rfl rfl rfl rfl) ?_))
 refine Tops_step rfl (OpT_bin rfl rfl rfl rfl rfl (bin_gtr_i (a := wp0) (b := (1 : Int)))) ?_
 refine Tops_step rfl (OpT_move rfl rfl rfl rfl) ?_
 rcases Bool.eq_false_or_eq_true (decide (wp0 > (1 : Int))) with hg1 | hg1
 ·replace h := br_t hg1 h
  refine Tops_yes rfl rfl (congrArg (fun b => some (Value.bool b)) hg1) (OpT_move rfl rfl rfl rfl) ?_
  rintro _ rfl
  refine Tops_yes rfl rfl (congrArg (fun b => some (Value.bool b)) hg1) (OpT_bin rfl rfl rfl rfl rfl (bin_lss_i (a := wp0) (b := (10 : Int)))) ?_
  rintro _ rfl
  refine Tops_step rfl (OpT_pickT rfl rfl rfl (congrArg (fun b => some (Value.bool b)) hg1) rfl) ?_
  refine Tops_step rfl (OpT_assign rfl rfl rfl rfl) ?_
  refine Tops_nil (Tk_wkS (fr' := [(2, some (vB (decide (wp0 < (10 : Int)))))]) (own' := []) (shr' := []) [2] [] [] rfl rfl rfl rfl ?_)
  obtain rfl := Option.some.inj h
  exact Tk_retV rfl rfl (resA (vs := [vB (decide (wp0 < (10 : Int)))]) rfl ⟨rfl, trivial⟩) [] [] rfl rfl rfl ⟨rfl, rfl, rfl⟩
 ·replace h := br_f hg1 h
  refine Tops_no rfl rfl (congrArg (fun b => some (Value.bool b)) hg1) rfl rfl ?_
  refine Tops_no rfl rfl (congrArg (fun b => some (Value.bool b)) hg1) rfl rfl ?_
  refine Tops_step rfl (OpT_pickF rfl rfl rfl (congrArg (fun b => some (Value.bool b)) hg1) rfl) ?_
  refine Tops_step rfl (OpT_assign rfl rfl rfl rfl) ?_
  refine Tops_nil (Tk_wkS (fr' := [(2, some (vB false))]) (own' := []) (shr' := []) [2] [] [] rfl rfl rfl rfl ?_)
  obtain rfl := Option.some.inj h
  exact Tk_retV rfl rfl (resA (vs := [vB false]) rfl ⟨rfl, trivial⟩) [] [] rfl rfl rfl ⟨rfl, rfl, rfl⟩

set_option maxRecDepth 100000 in
set_option maxHeartbeats 4000000 in
theorem w_layout_Over {rp0 : Rings} {atp1 : UInt64} {np2 : UInt64} {r : Bool} (h : layout_Over rp0 atp1 np2 = some r) :
  Ctr Try.prog 15 #[.agg #[vB rp0.Packed, vI rp0.Size, vU64 rp0.Desc, vU64 rp0.Driver, vU64 rp0.Device], vU64 atp1, vU64 np2] [] []
   (fun rv own shr => rv = vB r ∧ own = [] ∧ shr = []) := by
 unfold layout_Over at h
 refine Ctr.mk (args := [.agg #[vB rp0.Packed, vI rp0.Size, vU64 rp0.Desc, vU64 rp0.Driver, vU64 rp0.Device], vU64 atp1, vU64 np2]) Try.func15 rfl rfl (fun R0 w0 B => ?_)
 refine Tk_seq (Tk_region (Tops_ex rfl (OpT_box rfl rfl rfl rfl) fun b1 => ?_))
 refine Tops_step rfl (OpT_assign rfl rfl rfl rfl) ?_
 refine Tops_nil (Tk_wkS (fr' := [(1, some (vU64 atp1)), (2, some (vU64 np2)), (3, some (.pointer (some ⟨b1, 0, none⟩)))]) (own' := [some (cellsR b1 27 [vB rp0.Packed, vI rp0.Size, vU64 rp0.Desc, vU64 rp0.Driver, vU64 rp0.Device])]) (shr' := []) [1, 2, 3] [0] [] rfl rfl rfl rfl ?_)
 refine Tk_seq (Tk_seq (Tk_region (Tops_step rfl (OpT_loadCA (vs := [vB rp0.Packed, vI rp0.Size, vU64 rp0.Desc, vU64 rp0.Driver, vU64 rp0.Device]) rfl rfl rfl rfl tyF27 (i := 0) rfl rfl rfl) ?_)))
 obtain ⟨check1, hx1, h⟩ := ob_e h
 refine Tops_exP rfl (OpT_call (w_layout_Check hx1) [] [] rfl rfl rfl rfl rfl callee13 rfl rfl rfl rfl) ?_
 rintro _ ⟨_, _, _, ⟨rfl, rfl, rfl⟩, rfl⟩
 refine Tops_step rfl (OpT_bin rfl rfl rfl rfl rfl (bin_neq_i (a := check1) (b := (0 : Int)))) ?_
 refine Tops_step rfl (OpT_move rfl rfl rfl rfl) ?_
 rcases Bool.eq_false_or_eq_true (check1 != (0 : Int)) with hg1 | hg1
 ·replace h := br_t hg1 h
  refine Tops_no rfl rfl (congrArg (fun b => some (Value.bool b)) hg1) rfl rfl ?_
  refine Tops_no rfl rfl (congrArg (fun b => some (Value.bool b)) hg1) rfl rfl ?_
  refine Tops_step rfl (OpT_pickT rfl rfl rfl (congrArg (fun b => some (Value.bool b)) hg1) rfl) ?_
  refine Tops_nil (Tk_wkS (fr' := [(1, some (vU64 atp1)), (2, some (vU64 np2)), (3, some (.pointer (some ⟨b1, 0, none⟩))), (15, some (vB true))]) (own' := [some (cellsR b1 27 [vB rp0.Packed, vI rp0.Size, vU64 rp0.Desc, vU64 rp0.Driver, vU64 rp0.Device])]) (shr' := []) [1, 2, 3, 15] [0] [] rfl rfl rfl rfl ?_)
  refine Tk_condT rfl ?_
  refine Tk_seq (Tk_region (Tops_step rfl (OpT_assign rfl rfl rfl rfl) ?_))
  refine Tops_nil (Tk_wkS (fr' := [(6, some (vB false))]) (own' := []) (shr' := []) [6] [] [] rfl rfl rfl rfl ?_)
  obtain rfl := Option.some.inj h
  exact Tk_retV rfl rfl (resA (vs := [vB false]) rfl ⟨rfl, trivial⟩) [] [] rfl rfl rfl ⟨rfl, rfl, rfl⟩
 ·replace h := br_f hg1 h
  refine Tops_yes rfl rfl (congrArg (fun b => some (Value.bool b)) hg1) (OpT_move rfl rfl rfl rfl) ?_
  rintro _ rfl
  refine Tops_yes rfl rfl (congrArg (fun b => some (Value.bool b)) hg1) (OpT_bin rfl rfl rfl rfl rfl (bin_eql_u64 (a := np2) (b := (0 : UInt64)))) ?_
  rintro _ rfl
  refine Tops_step rfl (OpT_pickF rfl rfl rfl (congrArg (fun b => some (Value.bool b)) hg1) rfl) ?_
  refine Tops_nil (Tk_wkS (fr' := [(1, some (vU64 atp1)), (2, some (vU64 np2)), (3, some (.pointer (some ⟨b1, 0, none⟩))), (15, some (vB (np2 == (0 : UInt64))))]) (own' := [some (cellsR b1 27 [vB rp0.Packed, vI rp0.Size, vU64 rp0.Desc, vU64 rp0.Driver, vU64 rp0.Device])]) (shr' := []) [1, 2, 3, 15] [0] [] rfl rfl rfl rfl ?_)
  rcases Bool.eq_false_or_eq_true (np2 == (0 : UInt64)) with hg2 | hg2
  ·replace h := br_t hg2 h
   refine Tk_condT (congrArg (fun b => some (Value.bool b)) hg2) ?_
   refine Tk_seq (Tk_region (Tops_step rfl (OpT_assign rfl rfl rfl rfl) ?_))
   refine Tops_nil (Tk_wkS (fr' := [(6, some (vB false))]) (own' := []) (shr' := []) [6] [] [] rfl rfl rfl rfl ?_)
   obtain rfl := Option.some.inj h
   exact Tk_retV rfl rfl (resA (vs := [vB false]) rfl ⟨rfl, trivial⟩) [] [] rfl rfl rfl ⟨rfl, rfl, rfl⟩
  ·replace h := br_f hg2 h
   refine Tk_condF (congrArg (fun b => some (Value.bool b)) hg2) ?_
   refine Tk_skip (Tk_seq (Tk_seq (Tk_region (Tops_step rfl (OpT_loadCA (vs := [vB rp0.Packed, vI rp0.Size, vU64 rp0.Desc, vU64 rp0.Driver, vU64 rp0.Device]) rfl rfl rfl rfl tyF27 (i := 0) rfl rfl rfl) ?_))))
   obtain ⟨spans1, hx2, h⟩ := ob_e h
   refine Tops_exP rfl (OpT_call (w_layout_spans hx2) [] [] rfl rfl rfl rfl rfl callee29 rfl rfl rfl rfl) ?_
   rintro _ ⟨_, _, _, ⟨rfl, rfl, rfl⟩, rfl⟩
   refine Tops_step rfl (OpT_move rfl rfl rfl rfl) ?_
   refine Tops_nil (Tk_wkS (fr' := [(1, some (vU64 atp1)), (2, some (vU64 np2)), (17, some (.agg #[vU64 spans1.a0.a0, vU64 spans1.a0.a1, vU64 spans1.a1.a0, vU64 spans1.a1.a1, vU64 spans1.a2.a0, vU64 spans1.a2.a1])), (18, some (vI (0 : Int)))]) (own' := []) (shr' := []) [1, 2, 17, 18] [] [] rfl rfl rfl rfl ?_)
   refine Tk_block (Tk_unroll 3 ?_)
   refine Tk_seq (Tk_region (Tops_step rfl (OpT_bin rfl rfl rfl rfl rfl (bin_lss_i (a := (0 : Int)) (b := (3 : Int)))) ?_))
   refine Tops_nil (Tk_seq (Tk_condT rfl ?_))
   refine Tk_skip (Tk_seq (Tk_block (Tk_seq (Tk_region (Tops_step rfl (OpT_idxKA (cs := [vU64 spans1.a0.a0, vU64 spans1.a0.a1, vU64 spans1.a1.a0, vU64 spans1.a1.a1, vU64 spans1.a2.a0, vU64 spans1.a2.a1]) (vs := [vU64 spans1.a0.a0, vU64 spans1.a0.a1]) rfl rfl rfl rfl rfl arrF59 tyF58 (by decide) rfl) ?_)))))
   refine Tops_ex rfl (OpT_alloc rfl rfl rfl tyZ58) fun b2 => ?_
   refine Tops_step rfl (OpT_storeC (cs' := [vU64 spans1.a0.a0, vU64 spans1.a0.a1]) rfl rfl rfl rfl tyF58 (i := 0) rfl rfl rfl (one_of rfl) rfl) ?_
   refine Tops_nil (Tk_wkS (fr' := [(1, some (vU64 atp1)), (2, some (vU64 np2)), (17, some (.agg #[vU64 spans1.a0.a0, vU64 spans1.a0.a1, vU64 spans1.a1.a0, vU64 spans1.a1.a1, vU64 spans1.a2.a0, vU64 spans1.a2.a1])), (18, some (vI (0 : Int))), (8, some (.pointer (some ⟨b2, 0, none⟩)))]) (own' := [some (cellsR b2 58 [vU64 spans1.a0.a0, vU64 spans1.a0.a1])]) (shr' := []) [1, 2, 17, 18, 8] [0] [] rfl rfl rfl rfl ?_)
   refine Tk_seq (Tk_region (Tops_step rfl (OpT_move rfl rfl rfl rfl) ?_))
   refine Tops_step rfl (OpT_move rfl rfl rfl rfl) ?_
   refine Tops_step rfl (OpT_indexC rfl rfl rfl rfl rfl arrF58 (by decide)) ?_
   refine Tops_step rfl (OpT_loadC rfl rfl rfl rfl tyF22 (i := 0) rfl rfl) ?_
   refine Tops_step rfl (OpT_indexC rfl rfl rfl rfl rfl arrF58 (by decide)) ?_
   refine Tops_step rfl (OpT_loadC rfl rfl rfl rfl tyF22 (i := 0) rfl rfl) ?_
   obtain ⟨common1, hx3, h⟩ := ob_e h
   refine Tops_exP rfl (OpT_call (w_layout_common hx3) [] [] rfl rfl rfl rfl rfl callee32 rfl rfl rfl rfl) ?_
   rintro _ ⟨_, _, _, ⟨rfl, rfl, rfl⟩, rfl⟩
   refine Tops_nil (Tk_wkS (fr' := [(1, some (vU64 atp1)), (2, some (vU64 np2)), (17, some (.agg #[vU64 spans1.a0.a0, vU64 spans1.a0.a1, vU64 spans1.a1.a0, vU64 spans1.a1.a1, vU64 spans1.a2.a0, vU64 spans1.a2.a1])), (18, some (vI (0 : Int))), (27, some (vB common1))]) (own' := []) (shr' := []) [1, 2, 17, 18, 27] [] [] rfl rfl rfl rfl ?_)
   rcases Bool.eq_false_or_eq_true (common1) with hg3 | hg3
   ·replace h := br_t hg3 h
    refine Tk_condT (congrArg (fun b => some (Value.bool b)) hg3) ?_
    refine Tk_seq (Tk_region (Tops_step rfl (OpT_assign rfl rfl rfl rfl) ?_))
    refine Tops_nil (Tk_wkS (fr' := [(6, some (vB true))]) (own' := []) (shr' := []) [6] [] [] rfl rfl rfl rfl ?_)
    obtain rfl := Option.some.inj h
    exact Tk_retV rfl rfl (resA (vs := [vB true]) rfl ⟨rfl, trivial⟩) [] [] rfl rfl rfl ⟨rfl, rfl, rfl⟩
   ·replace h := br_f hg3 h
    refine Tk_condF (congrArg (fun b => some (Value.bool b)) hg3) ?_
    refine Tk_skip (Tk_blk (Tk_region (Tops_step rfl (OpT_bin rfl rfl rfl rfl rfl (bin_add_i (a := (0 : Int)) (b := (1 : Int)))) ?_)))
    refine Tops_step rfl (OpT_move rfl rfl rfl rfl) ?_
    refine Tops_nil (Tk_wkS (fr' := [(1, some (vU64 atp1)), (2, some (vU64 np2)), (17, some (.agg #[vU64 spans1.a0.a0, vU64 spans1.a0.a1, vU64 spans1.a1.a0, vU64 spans1.a1.a1, vU64 spans1.a2.a0, vU64 spans1.a2.a1])), (18, some (vI (1 : Int)))]) (own' := []) (shr' := []) [1, 2, 17, 18] [] [] rfl rfl rfl rfl ?_)
    refine Tk_round ?_
    refine Tk_seq (Tk_region (Tops_step rfl (OpT_bin rfl rfl rfl rfl rfl (bin_lss_i (a := (1 : Int)) (b := (3 : Int)))) ?_))
    refine Tops_nil (Tk_seq (Tk_condT rfl ?_))
    refine Tk_skip (Tk_seq (Tk_block (Tk_seq (Tk_region (Tops_step rfl (OpT_idxKA (cs := [vU64 spans1.a0.a0, vU64 spans1.a0.a1, vU64 spans1.a1.a0, vU64 spans1.a1.a1, vU64 spans1.a2.a0, vU64 spans1.a2.a1]) (vs := [vU64 spans1.a1.a0, vU64 spans1.a1.a1]) rfl rfl rfl rfl rfl arrF59 tyF58 (by decide) rfl) ?_)))))
    refine Tops_ex rfl (OpT_alloc rfl rfl rfl tyZ58) fun b3 => ?_
    refine Tops_step rfl (OpT_storeC (cs' := [vU64 spans1.a1.a0, vU64 spans1.a1.a1]) rfl rfl rfl rfl tyF58 (i := 0) rfl rfl rfl (one_of rfl) rfl) ?_
    refine Tops_nil (Tk_wkS (fr' := [(1, some (vU64 atp1)), (2, some (vU64 np2)), (17, some (.agg #[vU64 spans1.a0.a0, vU64 spans1.a0.a1, vU64 spans1.a1.a0, vU64 spans1.a1.a1, vU64 spans1.a2.a0, vU64 spans1.a2.a1])), (18, some (vI (1 : Int))), (8, some (.pointer (some ⟨b3, 0, none⟩)))]) (own' := [some (cellsR b3 58 [vU64 spans1.a1.a0, vU64 spans1.a1.a1])]) (shr' := []) [1, 2, 17, 18, 8] [0] [] rfl rfl rfl rfl ?_)
    refine Tk_seq (Tk_region (Tops_step rfl (OpT_move rfl rfl rfl rfl) ?_))
    refine Tops_step rfl (OpT_move rfl rfl rfl rfl) ?_
    refine Tops_step rfl (OpT_indexC rfl rfl rfl rfl rfl arrF58 (by decide)) ?_
    refine Tops_step rfl (OpT_loadC rfl rfl rfl rfl tyF22 (i := 0) rfl rfl) ?_
    refine Tops_step rfl (OpT_indexC rfl rfl rfl rfl rfl arrF58 (by decide)) ?_
    refine Tops_step rfl (OpT_loadC rfl rfl rfl rfl tyF22 (i := 0) rfl rfl) ?_
    obtain ⟨common2, hx4, h⟩ := ob_e h
    refine Tops_exP rfl (OpT_call (w_layout_common hx4) [] [] rfl rfl rfl rfl rfl callee32 rfl rfl rfl rfl) ?_
    rintro _ ⟨_, _, _, ⟨rfl, rfl, rfl⟩, rfl⟩
    refine Tops_nil (Tk_wkS (fr' := [(1, some (vU64 atp1)), (2, some (vU64 np2)), (17, some (.agg #[vU64 spans1.a0.a0, vU64 spans1.a0.a1, vU64 spans1.a1.a0, vU64 spans1.a1.a1, vU64 spans1.a2.a0, vU64 spans1.a2.a1])), (18, some (vI (1 : Int))), (27, some (vB common2))]) (own' := []) (shr' := []) [1, 2, 17, 18, 27] [] [] rfl rfl rfl rfl ?_)
    rcases Bool.eq_false_or_eq_true (common2) with hg4 | hg4
    ·replace h := br_t hg4 h
     refine Tk_condT (congrArg (fun b => some (Value.bool b)) hg4) ?_
     refine Tk_seq (Tk_region (Tops_step rfl (OpT_assign rfl rfl rfl rfl) ?_))
     refine Tops_nil (Tk_wkS (fr' := [(6, some (vB true))]) (own' := []) (shr' := []) [6] [] [] rfl rfl rfl rfl ?_)
     obtain rfl := Option.some.inj h
     exact Tk_retV rfl rfl (resA (vs := [vB true]) rfl ⟨rfl, trivial⟩) [] [] rfl rfl rfl ⟨rfl, rfl, rfl⟩
    ·replace h := br_f hg4 h
     refine Tk_condF (congrArg (fun b => some (Value.bool b)) hg4) ?_
     refine Tk_skip (Tk_blk (Tk_region (Tops_step rfl (OpT_bin rfl rfl rfl rfl rfl (bin_add_i (a := (1 : Int)) (b := (1 : Int)))) ?_)))
     refine Tops_step rfl (OpT_move rfl rfl rfl rfl) ?_
     refine Tops_nil (Tk_wkS (fr' := [(1, some (vU64 atp1)), (2, some (vU64 np2)), (17, some (.agg #[vU64 spans1.a0.a0, vU64 spans1.a0.a1, vU64 spans1.a1.a0, vU64 spans1.a1.a1, vU64 spans1.a2.a0, vU64 spans1.a2.a1])), (18, some (vI (2 : Int)))]) (own' := []) (shr' := []) [1, 2, 17, 18] [] [] rfl rfl rfl rfl ?_)
     refine Tk_round ?_
     refine Tk_seq (Tk_region (Tops_step rfl (OpT_bin rfl rfl rfl rfl rfl (bin_lss_i (a := (2 : Int)) (b := (3 : Int)))) ?_))
     refine Tops_nil (Tk_seq (Tk_condT rfl ?_))
     refine Tk_skip (Tk_seq (Tk_block (Tk_seq (Tk_region (Tops_step rfl (OpT_idxKA (cs := [vU64 spans1.a0.a0, vU64 spans1.a0.a1, vU64 spans1.a1.a0, vU64 spans1.a1.a1, vU64 spans1.a2.a0, vU64 spans1.a2.a1]) (vs := [vU64 spans1.a2.a0, vU64 spans1.a2.a1]) rfl rfl rfl rfl rfl arrF59 tyF58 (by decide) rfl) ?_)))))
     refine Tops_ex rfl (OpT_alloc rfl rfl rfl tyZ58) fun b4 => ?_
     refine Tops_step rfl (OpT_storeC (cs' := [vU64 spans1.a2.a0, vU64 spans1.a2.a1]) rfl rfl rfl rfl tyF58 (i := 0) rfl rfl rfl (one_of rfl) rfl) ?_
     refine Tops_nil (Tk_wkS (fr' := [(1, some (vU64 atp1)), (2, some (vU64 np2)), (17, some (.agg #[vU64 spans1.a0.a0, vU64 spans1.a0.a1, vU64 spans1.a1.a0, vU64 spans1.a1.a1, vU64 spans1.a2.a0, vU64 spans1.a2.a1])), (18, some (vI (2 : Int))), (8, some (.pointer (some ⟨b4, 0, none⟩)))]) (own' := [some (cellsR b4 58 [vU64 spans1.a2.a0, vU64 spans1.a2.a1])]) (shr' := []) [1, 2, 17, 18, 8] [0] [] rfl rfl rfl rfl ?_)
     refine Tk_seq (Tk_region (Tops_step rfl (OpT_move rfl rfl rfl rfl) ?_))
     refine Tops_step rfl (OpT_move rfl rfl rfl rfl) ?_
     refine Tops_step rfl (OpT_indexC rfl rfl rfl rfl rfl arrF58 (by decide)) ?_
     refine Tops_step rfl (OpT_loadC rfl rfl rfl rfl tyF22 (i := 0) rfl rfl) ?_
     refine Tops_step rfl (OpT_indexC rfl rfl rfl rfl rfl arrF58 (by decide)) ?_
     refine Tops_step rfl (OpT_loadC rfl rfl rfl rfl tyF22 (i := 0) rfl rfl) ?_
     obtain ⟨common3, hx5, h⟩ := ob_e h
     refine Tops_exP rfl (OpT_call (w_layout_common hx5) [] [] rfl rfl rfl rfl rfl callee32 rfl rfl rfl rfl) ?_
     rintro _ ⟨_, _, _, ⟨rfl, rfl, rfl⟩, rfl⟩
     refine Tops_nil (Tk_wkS (fr' := [(1, some (vU64 atp1)), (2, some (vU64 np2)), (17, some (.agg #[vU64 spans1.a0.a0, vU64 spans1.a0.a1, vU64 spans1.a1.a0, vU64 spans1.a1.a1, vU64 spans1.a2.a0, vU64 spans1.a2.a1])), (18, some (vI (2 : Int))), (27, some (vB common3))]) (own' := []) (shr' := []) [1, 2, 17, 18, 27] [] [] rfl rfl rfl rfl ?_)
     rcases Bool.eq_false_or_eq_true (common3) with hg5 | hg5
     ·replace h := br_t hg5 h
      refine Tk_condT (congrArg (fun b => some (Value.bool b)) hg5) ?_
      refine Tk_seq (Tk_region (Tops_step rfl (OpT_assign rfl rfl rfl rfl) ?_))
      refine Tops_nil (Tk_wkS (fr' := [(6, some (vB true))]) (own' := []) (shr' := []) [6] [] [] rfl rfl rfl rfl ?_)
      obtain rfl := Option.some.inj h
      exact Tk_retV rfl rfl (resA (vs := [vB true]) rfl ⟨rfl, trivial⟩) [] [] rfl rfl rfl ⟨rfl, rfl, rfl⟩
     ·replace h := br_f hg5 h
      refine Tk_condF (congrArg (fun b => some (Value.bool b)) hg5) ?_
      refine Tk_skip (Tk_blk (Tk_region (Tops_step rfl (OpT_bin rfl rfl rfl rfl rfl (bin_add_i (a := (2 : Int)) (b := (1 : Int)))) ?_)))
      refine Tops_step rfl (OpT_move rfl rfl rfl rfl) ?_
      refine Tops_nil (Tk_wkS (fr' := [(1, some (vU64 atp1)), (2, some (vU64 np2)), (17, some (.agg #[vU64 spans1.a0.a0, vU64 spans1.a0.a1, vU64 spans1.a1.a0, vU64 spans1.a1.a1, vU64 spans1.a2.a0, vU64 spans1.a2.a1])), (18, some (vI (3 : Int)))]) (own' := []) (shr' := []) [1, 2, 17, 18] [] [] rfl rfl rfl rfl ?_)
      refine Tk_round ?_
      refine Tk_seq (Tk_region (Tops_step rfl (OpT_bin rfl rfl rfl rfl rfl (bin_lss_i (a := (3 : Int)) (b := (3 : Int)))) ?_))
      refine Tops_nil (Tk_seq (Tk_condF rfl ?_))
      refine Tk_exit _ rfl ?_
      refine Tk_seq (Tk_region (Tops_step rfl (OpT_assign rfl rfl rfl rfl) ?_))
      refine Tops_nil (Tk_wkS (fr' := [(6, some (vB false))]) (own' := []) (shr' := []) [6] [] [] rfl rfl rfl rfl ?_)
      obtain rfl := Option.some.inj h
      exact Tk_retV rfl rfl (resA (vs := [vB false]) rfl ⟨rfl, trivial⟩) [] [] rfl rfl rfl ⟨rfl, rfl, rfl⟩

end Go.Proofs.Ytbeendakebamhaa
