/- The law LayoutMoves is walked: it returns what its plain words say. No condition. -/
import Derived.Test.YtbeendakebamhaaWa5
namespace Go.Proofs.Ytbeendakebamhaa

set_option maxRecDepth 100000 in
set_option maxHeartbeats 4000000 in
theorem w_law04zLayoutMoves {packed : Bool} {size : Int} {base : UInt64} {what : Int} {ip4 : Int}  (h : law04zLayoutMoves packed size base what ip4 = some true) :
  Ctr Try.prog 3 #[vB packed, vI size, vU64 base, vI what, vI ip4] [] []
   (fun rv own shr => rv = .bool true ∧ own = [] ∧ shr = []) := by
 unfold law04zLayoutMoves at h
 refine Ctr.mk (args := [vB packed, vI size, vU64 base, vI what, vI ip4]) Try.func3 rfl rfl (fun R0 w0 B => ?_)
 refine Tk_seq (Tk_region (Tops_step rfl (OpT_assign rfl rfl rfl rfl) ?_))
 refine Tops_nil (Tk_wkS (fr' := [(0, some (vB packed)), (1, some (vI size)), (2, some (vU64 base)), (3, some (vI what)), (4, some (vI ip4))]) (own' := []) (shr' := []) [0, 1, 2, 3, 4] [] [] rfl rfl rfl rfl ?_)
 refine Tk_seq (Tk_seq (Tk_region ?_))
 obtain ⟨lives1, hx1, h⟩ := ob_e h
 refine Tops_exP rfl (OpT_call (w_law04zlives hx1) [] [] rfl rfl rfl rfl rfl callee8 rfl rfl rfl rfl) ?_
 rintro _ ⟨_, _, _, ⟨rfl, rfl, rfl⟩, rfl⟩
 refine Tops_step rfl (OpT_not rfl rfl rfl rfl) ?_
 refine Tops_nil (Tk_wkS (fr' := [(0, some (vB packed)), (1, some (vI size)), (2, some (vU64 base)), (3, some (vI what)), (4, some (vI ip4)), (33, some (vB (!lives1)))]) (own' := []) (shr' := []) [0, 1, 2, 3, 4, 33] [] [] rfl rfl rfl rfl ?_)
 obtain ⟨hg1, h⟩ := chk_e h
 replace hg1 := not_t hg1
 refine Tk_condF (congrArg (fun b => some (Value.bool b)) hg1) ?_
 refine Tk_skip (Tk_seq (Tk_region (Tops_step rfl (OpT_move rfl rfl rfl rfl) ?_)))
 obtain ⟨pick1, hx2, h⟩ := ob_e h
 refine Tops_exP rfl (OpT_call (w_kit_Pick hx2) [] [] rfl rfl rfl rfl rfl callee9 rfl rfl rfl rfl) ?_
 rintro _ ⟨_, _, _, ⟨rfl, rfl, rfl⟩, rfl⟩
 refine Tops_step rfl (OpT_cnv rfl rfl rfl rfl (cnv_i_u64 (n := pick1) Try.underlying3 Try.underlying24)) ?_
 refine Tops_step rfl (OpT_bin rfl rfl rfl rfl rfl (bin_shl_i_u64 (a := (1 : Int)) (n := u64 pick1))) ?_
 refine Tops_step rfl (OpT_assign rfl rfl rfl rfl) ?_
 refine Tops_nil (Tk_wkS (fr' := [(0, some (vB packed)), (1, some (vI (shli (1 : Int) ((u64 pick1).toNat)))), (2, some (vU64 base)), (3, some (vI what)), (4, some (vI ip4))]) (own' := []) (shr' := []) [0, 1, 2, 3, 4] [] [] rfl rfl rfl rfl ?_)
 refine Tk_seq (Tk_region (Tops_step rfl (OpT_move rfl rfl rfl rfl) ?_))
 refine Tops_step rfl (OpT_bin rfl rfl rfl rfl rfl (bin_rem_u64 (a := base) (b := (1099511627776 : UInt64)) rfl)) ?_
 refine Tops_step rfl (OpT_bin rfl rfl rfl rfl rfl (bin_mul_u64 (a := base % (1099511627776 : UInt64)) (b := (16 : UInt64)))) ?_
 refine Tops_step rfl (OpT_assign rfl rfl rfl rfl) ?_
 refine Tops_nil (Tk_wkS (fr' := [(0, some (vB packed)), (1, some (vI (shli (1 : Int) ((u64 pick1).toNat)))), (2, some (vU64 ((base % (1099511627776 : UInt64)) * (16 : UInt64)))), (3, some (vI what)), (4, some (vI ip4))]) (own' := []) (shr' := []) [0, 1, 2, 3, 4] [] [] rfl rfl rfl rfl ?_)
 refine Tk_seq (Tk_region (Tops_step rfl (OpT_move rfl rfl rfl rfl) ?_))
 refine Tops_step rfl (OpT_move rfl rfl rfl rfl) ?_
 obtain ⟨place1, hx3, h⟩ := ob_e h
 refine Tops_exP rfl (OpT_call (w_layout_Place hx3) [] [] rfl rfl rfl rfl rfl callee10 rfl rfl rfl rfl) ?_
 rintro _ ⟨_, _, _, ⟨rfl, rfl, rfl⟩, rfl⟩
 refine Tops_step rfl (OpT_move rfl rfl rfl rfl) ?_
 refine Tops_step rfl (OpT_extract rfl rfl rfl rfl rfl) ?_
 refine Tops_step rfl (OpT_extract rfl rfl rfl rfl rfl) ?_
 refine Tops_step rfl (OpT_extract rfl rfl rfl rfl rfl) ?_
 refine Tops_ex rfl (OpT_alloc rfl rfl rfl tyZ27) fun b1 => ?_
 refine Tops_step rfl (OpT_storeC (cs' := [vB place1.1.Packed, vI place1.1.Size, vU64 place1.1.Desc, vU64 place1.1.Driver, vU64 place1.1.Device]) rfl rfl rfl rfl tyF27 (i := 0) rfl rfl rfl (one_of rfl) rfl) ?_
 refine Tops_step rfl (OpT_assign rfl rfl rfl rfl) ?_
 refine Tops_step rfl (OpT_assign rfl rfl rfl rfl) ?_
 refine Tops_nil (Tk_wkS (fr' := [(0, some (vB packed)), (1, some (vI (shli (1 : Int) ((u64 pick1).toNat)))), (2, some (vU64 ((base % (1099511627776 : UInt64)) * (16 : UInt64)))), (3, some (vI what)), (4, some (vI ip4)), (11, some (.pointer (some ⟨b1, 0, none⟩))), (12, some (vU64 place1.2.1)), (13, some (vI place1.2.2))]) (own' := [some (cellsR b1 27 [vB place1.1.Packed, vI place1.1.Size, vU64 place1.1.Desc, vU64 place1.1.Driver, vU64 place1.1.Device])]) (shr' := []) [0, 1, 2, 3, 4, 11, 12, 13] [0] [] rfl rfl rfl rfl ?_)
 refine Tk_seq (Tk_region (Tops_step rfl (OpT_move rfl rfl rfl rfl) ?_))
 refine Tops_step rfl (OpT_move rfl rfl rfl rfl) ?_
 refine Tops_step rfl (OpT_move rfl rfl rfl rfl) ?_
 obtain ⟨place2, hx4, h⟩ := ob_e h
 refine Tops_exP rfl (OpT_call (w_layout_Place hx4) [] [] rfl rfl rfl rfl rfl callee10 rfl rfl rfl rfl) ?_
 rintro _ ⟨_, _, _, ⟨rfl, rfl, rfl⟩, rfl⟩
 refine Tops_step rfl (OpT_move rfl rfl rfl rfl) ?_
 refine Tops_step rfl (OpT_extract rfl rfl rfl rfl rfl) ?_
 refine Tops_step rfl (OpT_extract rfl rfl rfl rfl rfl) ?_
 refine Tops_step rfl (OpT_extract rfl rfl rfl rfl rfl) ?_
 refine Tops_ex rfl (OpT_alloc rfl rfl rfl tyZ27) fun b2 => ?_
 refine Tops_step rfl (OpT_storeC (cs' := [vB place2.1.Packed, vI place2.1.Size, vU64 place2.1.Desc, vU64 place2.1.Driver, vU64 place2.1.Device]) rfl rfl rfl rfl tyF27 (i := 1) rfl rfl rfl (one_of rfl) rfl) ?_
 refine Tops_step rfl (OpT_assign rfl rfl rfl rfl) ?_
 refine Tops_step rfl (OpT_assign rfl rfl rfl rfl) ?_
 refine Tops_nil (Tk_wkS (fr' := [(0, some (vB packed)), (1, some (vI (shli (1 : Int) ((u64 pick1).toNat)))), (2, some (vU64 ((base % (1099511627776 : UInt64)) * (16 : UInt64)))), (3, some (vI what)), (4, some (vI ip4)), (11, some (.pointer (some ⟨b1, 0, none⟩))), (12, some (vU64 place1.2.1)), (13, some (vI place1.2.2)), (14, some (.pointer (some ⟨b2, 0, none⟩))), (15, some (vU64 place2.2.1)), (16, some (vI place2.2.2))]) (own' := [some (cellsR b1 27 [vB place1.1.Packed, vI place1.1.Size, vU64 place1.1.Desc, vU64 place1.1.Driver, vU64 place1.1.Device]), some (cellsR b2 27 [vB place2.1.Packed, vI place2.1.Size, vU64 place2.1.Desc, vU64 place2.1.Driver, vU64 place2.1.Device])]) (shr' := []) [0, 1, 2, 3, 4, 11, 12, 13, 14, 15, 16] [0, 1] [] rfl rfl rfl rfl ?_)
 refine Tk_seq (Tk_region (Tops_step rfl (OpT_move rfl rfl rfl rfl) ?_))
 refine Tops_step rfl (OpT_move rfl rfl rfl rfl) ?_
 refine Tops_step rfl (OpT_bin rfl rfl rfl rfl rfl (bin_mul_i (a := (2 : Int)) (b := shli (1 : Int) ((u64 pick1).toNat)))) ?_
 obtain ⟨place3, hx5, h⟩ := ob_e h
 refine Tops_exP rfl (OpT_call (w_layout_Place hx5) [] [] rfl rfl rfl rfl rfl callee10 rfl rfl rfl rfl) ?_
 rintro _ ⟨_, _, _, ⟨rfl, rfl, rfl⟩, rfl⟩
 refine Tops_step rfl (OpT_move rfl rfl rfl rfl) ?_
 refine Tops_step rfl (OpT_extract rfl rfl rfl rfl rfl) ?_
 refine Tops_step rfl (OpT_extract rfl rfl rfl rfl rfl) ?_
 refine Tops_step rfl (OpT_extract rfl rfl rfl rfl rfl) ?_
 refine Tops_ex rfl (OpT_alloc rfl rfl rfl tyZ27) fun b3 => ?_
 refine Tops_step rfl (OpT_storeC (cs' := [vB place3.1.Packed, vI place3.1.Size, vU64 place3.1.Desc, vU64 place3.1.Driver, vU64 place3.1.Device]) rfl rfl rfl rfl tyF27 (i := 2) rfl rfl rfl (one_of rfl) rfl) ?_
 refine Tops_step rfl (OpT_assign rfl rfl rfl rfl) ?_
 refine Tops_step rfl (OpT_assign rfl rfl rfl rfl) ?_
 refine Tops_nil (Tk_wkS (fr' := [(0, some (vB packed)), (1, some (vI (shli (1 : Int) ((u64 pick1).toNat)))), (2, some (vU64 ((base % (1099511627776 : UInt64)) * (16 : UInt64)))), (3, some (vI what)), (4, some (vI ip4)), (11, some (.pointer (some ⟨b1, 0, none⟩))), (12, some (vU64 place1.2.1)), (13, some (vI place1.2.2)), (14, some (.pointer (some ⟨b2, 0, none⟩))), (15, some (vU64 place2.2.1)), (16, some (vI place2.2.2)), (17, some (.pointer (some ⟨b3, 0, none⟩))), (18, some (vU64 place3.2.1)), (19, some (vI place3.2.2))]) (own' := [some (cellsR b1 27 [vB place1.1.Packed, vI place1.1.Size, vU64 place1.1.Desc, vU64 place1.1.Driver, vU64 place1.1.Device]), some (cellsR b2 27 [vB place2.1.Packed, vI place2.1.Size, vU64 place2.1.Desc, vU64 place2.1.Driver, vU64 place2.1.Device]), some (cellsR b3 27 [vB place3.1.Packed, vI place3.1.Size, vU64 place3.1.Desc, vU64 place3.1.Driver, vU64 place3.1.Device])]) (shr' := []) [0, 1, 2, 3, 4, 11, 12, 13, 14, 15, 16, 17, 18, 19] [0, 1, 2] [] rfl rfl rfl rfl ?_)
 refine Tk_seq (Tk_seq (Tk_region (Tops_step rfl (OpT_move rfl rfl rfl rfl) ?_)))
 refine Tops_step rfl (OpT_bin rfl rfl rfl rfl rfl (bin_neq_i (a := place1.2.2) (b := (0 : Int)))) ?_
 refine Tops_step rfl (OpT_move rfl rfl rfl rfl) ?_
 obtain ⟨hg2, h⟩ := chk_e h
 replace hg2 := not_t hg2
 refine Tops_yes rfl rfl (congrArg (fun b => some (Value.bool b)) hg2) (OpT_move rfl rfl rfl rfl) ?_
 rintro _ rfl
 refine Tops_yes rfl rfl (congrArg (fun b => some (Value.bool b)) hg2) (OpT_bin rfl rfl rfl rfl rfl (bin_neq_i (a := place2.2.2) (b := (0 : Int)))) ?_
 rintro _ rfl
 refine Tops_step rfl (OpT_pickF rfl rfl rfl (congrArg (fun b => some (Value.bool b)) hg2) rfl) ?_
 refine Tops_step rfl (OpT_move rfl rfl rfl rfl) ?_
 obtain ⟨hg3, h⟩ := chk_e h
 replace hg3 := not_t hg3
 refine Tops_yes rfl rfl (congrArg (fun b => some (Value.bool b)) hg3) (OpT_move rfl rfl rfl rfl) ?_
 rintro _ rfl
 refine Tops_yes rfl rfl (congrArg (fun b => some (Value.bool b)) hg3) (OpT_bin rfl rfl rfl rfl rfl (bin_neq_i (a := place3.2.2) (b := (0 : Int)))) ?_
 rintro _ rfl
 refine Tops_step rfl (OpT_pickF rfl rfl rfl (congrArg (fun b => some (Value.bool b)) hg3) rfl) ?_
 refine Tops_step rfl (OpT_move rfl rfl rfl rfl) ?_
 obtain ⟨hg4, h⟩ := chk_e h
 replace hg4 := not_t hg4
 refine Tops_yes rfl rfl (congrArg (fun b => some (Value.bool b)) hg4) (OpT_move rfl rfl rfl rfl) ?_
 rintro _ rfl
 refine Tops_yes rfl rfl (congrArg (fun b => some (Value.bool b)) hg4) (OpT_move rfl rfl rfl rfl) ?_
 rintro _ rfl
 refine Tops_yes rfl rfl (congrArg (fun b => some (Value.bool b)) hg4) (OpT_bin rfl rfl rfl rfl rfl (bin_neq_u64 (a := place1.2.1) (b := place2.2.1))) ?_
 rintro _ rfl
 refine Tops_step rfl (OpT_pickF rfl rfl rfl (congrArg (fun b => some (Value.bool b)) hg4) rfl) ?_
 refine Tops_step rfl (OpT_move rfl rfl rfl rfl) ?_
 obtain ⟨hg5, h⟩ := chk_e h
 replace hg5 := not_t hg5
 refine Tops_yes rfl rfl (congrArg (fun b => some (Value.bool b)) hg5) (OpT_move rfl rfl rfl rfl) ?_
 rintro _ rfl
 refine Tops_yes rfl rfl (congrArg (fun b => some (Value.bool b)) hg5) (OpT_move rfl rfl rfl rfl) ?_
 rintro _ rfl
 refine Tops_yes rfl rfl (congrArg (fun b => some (Value.bool b)) hg5) (OpT_bin rfl rfl rfl rfl rfl (bin_leq_u64 (a := place3.2.1) (b := place1.2.1))) ?_
 rintro _ rfl
 refine Tops_step rfl (OpT_pickF rfl rfl rfl (congrArg (fun b => some (Value.bool b)) hg5) rfl) ?_
 refine Tops_nil (Tk_wkS (fr' := [(0, some (vB packed)), (1, some (vI (shli (1 : Int) ((u64 pick1).toNat)))), (2, some (vU64 ((base % (1099511627776 : UInt64)) * (16 : UInt64)))), (3, some (vI what)), (4, some (vI ip4)), (11, some (.pointer (some ⟨b1, 0, none⟩))), (14, some (.pointer (some ⟨b2, 0, none⟩))), (17, some (.pointer (some ⟨b3, 0, none⟩))), (83, some (vB (decide (place3.2.1 ≤ place1.2.1))))]) (own' := [some (cellsR b1 27 [vB place1.1.Packed, vI place1.1.Size, vU64 place1.1.Desc, vU64 place1.1.Driver, vU64 place1.1.Device]), some (cellsR b2 27 [vB place2.1.Packed, vI place2.1.Size, vU64 place2.1.Desc, vU64 place2.1.Driver, vU64 place2.1.Device]), some (cellsR b3 27 [vB place3.1.Packed, vI place3.1.Size, vU64 place3.1.Desc, vU64 place3.1.Driver, vU64 place3.1.Device])]) (shr' := []) [0, 1, 2, 3, 4, 11, 14, 17, 83] [0, 1, 2] [] rfl rfl rfl rfl ?_)
 obtain ⟨hg6, h⟩ := chk_e h
 replace hg6 := not_t hg6
 refine Tk_condF (congrArg (fun b => some (Value.bool b)) hg6) ?_
 refine Tk_skip (Tk_seq (Tk_region (Tops_step rfl (OpT_loadCA (vs := [vB place1.1.Packed, vI place1.1.Size, vU64 place1.1.Desc, vU64 place1.1.Driver, vU64 place1.1.Device]) rfl rfl rfl rfl tyF27 (i := 0) rfl rfl rfl) ?_)))
 obtain ⟨parts1, hx6, h⟩ := ob_e h
 refine Tops_exP rfl (OpT_call (w_layout_Parts hx6) [] [] rfl rfl rfl rfl rfl callee11 rfl rfl rfl rfl) ?_
 rintro _ ⟨_, _, _, ⟨rfl, rfl, rfl⟩, rfl⟩
 refine Tops_step rfl (OpT_move rfl rfl rfl rfl) ?_
 refine Tops_step rfl (OpT_extract rfl rfl rfl rfl rfl) ?_
 refine Tops_step rfl (OpT_extract rfl rfl rfl rfl rfl) ?_
 refine Tops_step rfl (OpT_extract rfl rfl rfl rfl rfl) ?_
 refine Tops_step rfl (OpT_assign rfl rfl rfl rfl) ?_
 refine Tops_step rfl (OpT_assign rfl rfl rfl rfl) ?_
 refine Tops_step rfl (OpT_assign rfl rfl rfl rfl) ?_
 refine Tops_nil (Tk_wkS (fr' := [(0, some (vB packed)), (1, some (vI (shli (1 : Int) ((u64 pick1).toNat)))), (2, some (vU64 ((base % (1099511627776 : UInt64)) * (16 : UInt64)))), (3, some (vI what)), (4, some (vI ip4)), (11, some (.pointer (some ⟨b1, 0, none⟩))), (14, some (.pointer (some ⟨b2, 0, none⟩))), (17, some (.pointer (some ⟨b3, 0, none⟩))), (20, some (vU64 parts1.1)), (21, some (vU64 parts1.2.1)), (22, some (vU64 parts1.2.2))]) (own' := [some (cellsR b1 27 [vB place1.1.Packed, vI place1.1.Size, vU64 place1.1.Desc, vU64 place1.1.Driver, vU64 place1.1.Device]), some (cellsR b2 27 [vB place2.1.Packed, vI place2.1.Size, vU64 place2.1.Desc, vU64 place2.1.Driver, vU64 place2.1.Device]), some (cellsR b3 27 [vB place3.1.Packed, vI place3.1.Size, vU64 place3.1.Desc, vU64 place3.1.Driver, vU64 place3.1.Device])]) (shr' := []) [0, 1, 2, 3, 4, 11, 14, 17, 20, 21, 22] [0, 1, 2] [] rfl rfl rfl rfl ?_)
 refine Tk_seq (Tk_region (Tops_step rfl (OpT_loadCA (vs := [vB place3.1.Packed, vI place3.1.Size, vU64 place3.1.Desc, vU64 place3.1.Driver, vU64 place3.1.Device]) rfl rfl rfl rfl tyF27 (i := 2) rfl rfl rfl) ?_))
 obtain ⟨parts2, hx7, h⟩ := ob_e h
 refine Tops_exP rfl (OpT_call (w_layout_Parts hx7) [] [] rfl rfl rfl rfl rfl callee11 rfl rfl rfl rfl) ?_
 rintro _ ⟨_, _, _, ⟨rfl, rfl, rfl⟩, rfl⟩
 refine Tops_step rfl (OpT_move rfl rfl rfl rfl) ?_
 refine Tops_step rfl (OpT_extract rfl rfl rfl rfl rfl) ?_
 refine Tops_step rfl (OpT_extract rfl rfl rfl rfl rfl) ?_
 refine Tops_step rfl (OpT_extract rfl rfl rfl rfl rfl) ?_
 refine Tops_step rfl (OpT_assign rfl rfl rfl rfl) ?_
 refine Tops_step rfl (OpT_assign rfl rfl rfl rfl) ?_
 refine Tops_step rfl (OpT_assign rfl rfl rfl rfl) ?_
 refine Tops_nil (Tk_wkS (fr' := [(0, some (vB packed)), (1, some (vI (shli (1 : Int) ((u64 pick1).toNat)))), (2, some (vU64 ((base % (1099511627776 : UInt64)) * (16 : UInt64)))), (3, some (vI what)), (4, some (vI ip4)), (11, some (.pointer (some ⟨b1, 0, none⟩))), (14, some (.pointer (some ⟨b2, 0, none⟩))), (20, some (vU64 parts1.1)), (21, some (vU64 parts1.2.1)), (22, some (vU64 parts1.2.2)), (23, some (vU64 parts2.1)), (24, some (vU64 parts2.2.1)), (25, some (vU64 parts2.2.2))]) (own' := [some (cellsR b1 27 [vB place1.1.Packed, vI place1.1.Size, vU64 place1.1.Desc, vU64 place1.1.Driver, vU64 place1.1.Device]), some (cellsR b2 27 [vB place2.1.Packed, vI place2.1.Size, vU64 place2.1.Desc, vU64 place2.1.Driver, vU64 place2.1.Device])]) (shr' := []) [0, 1, 2, 3, 4, 11, 14, 20, 21, 22, 23, 24, 25] [0, 1] [] rfl rfl rfl rfl ?_)
 refine Tk_seq (Tk_seq (Tk_region (Tops_step rfl (OpT_move rfl rfl rfl rfl) ?_)))
 refine Tops_step rfl (OpT_move rfl rfl rfl rfl) ?_
 refine Tops_step rfl (OpT_bin rfl rfl rfl rfl rfl (bin_mul_u64 (a := (2 : UInt64)) (b := parts1.1))) ?_
 refine Tops_step rfl (OpT_bin rfl rfl rfl rfl rfl (bin_neq_u64 (a := parts2.1) (b := (2 : UInt64) * parts1.1))) ?_
 refine Tops_step rfl (OpT_move rfl rfl rfl rfl) ?_
 obtain ⟨hg7, h⟩ := chk_e h
 replace hg7 := not_t hg7
 refine Tops_yes rfl rfl (congrArg (fun b => some (Value.bool b)) hg7) (OpT_move rfl rfl rfl rfl) ?_
 rintro _ rfl
 refine Tops_yes rfl rfl (congrArg (fun b => some (Value.bool b)) hg7) (OpT_move rfl rfl rfl rfl) ?_
 rintro _ rfl
 rcases Bool.eq_false_or_eq_true (packed) with hg8 | hg8
 ·replace h := br_t hg8 h
  refine Tops_yes rfl rfl (congrArg (fun b => some (Value.bool b)) hg8) (OpT_move rfl rfl rfl rfl) ?_
  rintro _ rfl
  refine Tops_yes rfl rfl (congrArg (fun b => some (Value.bool b)) hg8) (OpT_move rfl rfl rfl rfl) ?_
  rintro _ rfl
  refine Tops_yes rfl rfl (congrArg (fun b => some (Value.bool b)) hg8) (OpT_bin rfl rfl rfl rfl rfl (bin_neq_u64 (a := parts2.2.1) (b := parts1.2.1))) ?_
  rintro _ rfl
  refine Tops_yes rfl rfl (congrArg (fun b => some (Value.bool b)) hg8) (OpT_move rfl rfl rfl rfl) ?_
  rintro _ rfl
  obtain ⟨hg9, h⟩ := chk_e h
  replace hg9 := not_t hg9
  refine Tops_yes rfl rfl (congrArg (fun b => some (Value.bool b)) hg9) (OpT_move rfl rfl rfl rfl) ?_
  rintro _ rfl
  refine Tops_yes rfl rfl (congrArg (fun b => some (Value.bool b)) hg9) (OpT_move rfl rfl rfl rfl) ?_
  rintro _ rfl
  refine Tops_yes rfl rfl (congrArg (fun b => some (Value.bool b)) hg9) (OpT_bin rfl rfl rfl rfl rfl (bin_neq_u64 (a := parts2.2.2) (b := parts1.2.2))) ?_
  rintro _ rfl
  refine Tops_yes rfl rfl (congrArg (fun b => some (Value.bool b)) hg8) (OpT_pickF rfl rfl rfl (congrArg (fun b => some (Value.bool b)) hg9) rfl) ?_
  rintro _ rfl
  refine Tops_yes rfl rfl (congrArg (fun b => some (Value.bool b)) hg7) (OpT_pickT rfl rfl rfl (congrArg (fun b => some (Value.bool b)) hg8) rfl) ?_
  rintro _ rfl
  refine Tops_step rfl (OpT_pickF rfl rfl rfl (congrArg (fun b => some (Value.bool b)) hg7) rfl) ?_
  refine Tops_step rfl (OpT_move rfl rfl rfl rfl) ?_
  obtain ⟨hg10, h⟩ := chk_e h
  replace hg10 := not_t hg10
  refine Tops_yes rfl rfl (congrArg (fun b => some (Value.bool b)) hg10) (OpT_move rfl rfl rfl rfl) ?_
  rintro _ rfl
  refine Tops_yes rfl rfl (congrArg (fun b => some (Value.bool b)) hg10) (OpT_not rfl rfl rfl rfl) ?_
  rintro _ rfl
  refine Tops_yes rfl rfl (congrArg (fun b => some (Value.bool b)) hg10) (OpT_move rfl rfl rfl rfl) ?_
  rintro _ rfl
  refine Tops_no rfl rfl (congrArg (fun b => some (Value.bool b)) (congrArg (!·) hg8)) rfl rfl ?_
  refine Tops_no rfl rfl (congrArg (fun b => some (Value.bool b)) (congrArg (!·) hg8)) rfl rfl ?_
  refine Tops_no rfl rfl (congrArg (fun b => some (Value.bool b)) (congrArg (!·) hg8)) rfl rfl ?_
  refine Tops_no rfl rfl (congrArg (fun b => some (Value.bool b)) (congrArg (!·) hg8)) rfl rfl ?_
  refine Tops_no rfl rfl (congrArg (fun b => some (Value.bool b)) (congrArg (!·) hg8)) rfl rfl ?_
  refine Tops_no rfl rfl (congrArg (fun b => some (Value.bool b)) (congrArg (!·) hg8)) rfl rfl ?_
  refine Tops_no rfl rfl (congrArg (fun b => some (Value.bool b)) (congrArg (!·) hg8)) rfl rfl ?_
  refine Tops_noU rfl rfl rfl rfl rfl ?_
  refine Tops_noU rfl rfl rfl rfl rfl ?_
  refine Tops_noU rfl rfl rfl rfl rfl ?_
  refine Tops_noU rfl rfl rfl rfl rfl ?_
  refine Tops_noU rfl rfl rfl rfl rfl ?_
  refine Tops_noU rfl rfl rfl rfl rfl ?_
  refine Tops_no rfl rfl (congrArg (fun b => some (Value.bool b)) (congrArg (!·) hg8)) rfl rfl ?_
  refine Tops_yes rfl rfl (congrArg (fun b => some (Value.bool b)) hg10) (OpT_pickF rfl rfl rfl (congrArg (fun b => some (Value.bool b)) (congrArg (!·) hg8)) rfl) ?_
  rintro _ rfl
  refine Tops_step rfl (OpT_pickF rfl rfl rfl (congrArg (fun b => some (Value.bool b)) hg10) rfl) ?_
  refine Tops_nil (Tk_wkS (fr' := [(1, some (vI (shli (1 : Int) ((u64 pick1).toNat)))), (2, some (vU64 ((base % (1099511627776 : UInt64)) * (16 : UInt64)))), (3, some (vI what)), (4, some (vI ip4)), (11, some (.pointer (some ⟨b1, 0, none⟩))), (14, some (.pointer (some ⟨b2, 0, none⟩))), (132, some (vB false))]) (own' := [some (cellsR b1 27 [vB place1.1.Packed, vI place1.1.Size, vU64 place1.1.Desc, vU64 place1.1.Driver, vU64 place1.1.Device]), some (cellsR b2 27 [vB place2.1.Packed, vI place2.1.Size, vU64 place2.1.Desc, vU64 place2.1.Driver, vU64 place2.1.Device])]) (shr' := []) [1, 2, 3, 4, 11, 14, 132] [0, 1] [] rfl rfl rfl rfl ?_)
  refine Tk_condF rfl ?_
  refine Tk_skip (Tk_seq (Tk_region (Tops_step rfl (OpT_move rfl rfl rfl rfl) ?_)))
  obtain ⟨pick2, hx8, h⟩ := ob_e h
  refine Tops_exP rfl (OpT_call (w_kit_Pick hx8) [] [] rfl rfl rfl rfl rfl callee9 rfl rfl rfl rfl) ?_
  rintro _ ⟨_, _, _, ⟨rfl, rfl, rfl⟩, rfl⟩
  refine Tops_step rfl (OpT_bin rfl rfl rfl rfl rfl (bin_add_i (a := (1 : Int)) (b := pick2))) ?_
  refine Tops_step rfl (OpT_move rfl rfl rfl rfl) ?_
  refine Tops_step rfl (OpT_move rfl rfl rfl rfl) ?_
  obtain ⟨pick3, hx9, h⟩ := ob_e h
  refine Tops_exP rfl (OpT_call (w_kit_Pick hx9) [] [] rfl rfl rfl rfl rfl callee9 rfl rfl rfl rfl) ?_
  rintro _ ⟨_, _, _, ⟨rfl, rfl, rfl⟩, rfl⟩
  refine Tops_step rfl (OpT_assign rfl rfl rfl rfl) ?_
  refine Tops_step rfl (OpT_assign rfl rfl rfl rfl) ?_
  refine Tops_nil (Tk_wkS (fr' := [(2, some (vU64 ((base % (1099511627776 : UInt64)) * (16 : UInt64)))), (3, some (vI (wi ((1 : Int) + pick2)))), (4, some (vI pick3)), (11, some (.pointer (some ⟨b1, 0, none⟩))), (14, some (.pointer (some ⟨b2, 0, none⟩)))]) (own' := [some (cellsR b1 27 [vB place1.1.Packed, vI place1.1.Size, vU64 place1.1.Desc, vU64 place1.1.Driver, vU64 place1.1.Device]), some (cellsR b2 27 [vB place2.1.Packed, vI place2.1.Size, vU64 place2.1.Desc, vU64 place2.1.Driver, vU64 place2.1.Device])]) (shr' := []) [2, 3, 4, 11, 14] [0, 1] [] rfl rfl rfl rfl ?_)
  refine Tk_seq (Tk_region (Tops_step rfl (OpT_loadCA (vs := [vB place1.1.Packed, vI place1.1.Size, vU64 place1.1.Desc, vU64 place1.1.Driver, vU64 place1.1.Device]) rfl rfl rfl rfl tyF27 (i := 0) rfl rfl rfl) ?_))
  refine Tops_step rfl (OpT_move rfl rfl rfl rfl) ?_
  refine Tops_step rfl (OpT_move rfl rfl rfl rfl) ?_
  obtain ⟨where1, hx10, h⟩ := ob_e h
  refine Tops_exP rfl (OpT_call (w_layout_Where hx10) [] [] rfl rfl rfl rfl rfl callee12 rfl rfl rfl rfl) ?_
  rintro _ ⟨_, _, _, ⟨rfl, rfl, rfl⟩, rfl⟩
  refine Tops_step rfl (OpT_move rfl rfl rfl rfl) ?_
  refine Tops_step rfl (OpT_extract rfl rfl rfl rfl rfl) ?_
  refine Tops_step rfl (OpT_extract rfl rfl rfl rfl rfl) ?_
  refine Tops_step rfl (OpT_extract rfl rfl rfl rfl rfl) ?_
  refine Tops_step rfl (OpT_assign rfl rfl rfl rfl) ?_
  refine Tops_step rfl (OpT_assign rfl rfl rfl rfl) ?_
  refine Tops_step rfl (OpT_assign rfl rfl rfl rfl) ?_
  refine Tops_nil (Tk_wkS (fr' := [(2, some (vU64 ((base % (1099511627776 : UInt64)) * (16 : UInt64)))), (3, some (vI (wi ((1 : Int) + pick2)))), (4, some (vI pick3)), (11, some (.pointer (some ⟨b1, 0, none⟩))), (14, some (.pointer (some ⟨b2, 0, none⟩))), (26, some (vU64 where1.1)), (27, some (vI where1.2.1)), (28, some (vI where1.2.2))]) (own' := [some (cellsR b1 27 [vB place1.1.Packed, vI place1.1.Size, vU64 place1.1.Desc, vU64 place1.1.Driver, vU64 place1.1.Device]), some (cellsR b2 27 [vB place2.1.Packed, vI place2.1.Size, vU64 place2.1.Desc, vU64 place2.1.Driver, vU64 place2.1.Device])]) (shr' := []) [2, 3, 4, 11, 14, 26, 27, 28] [0, 1] [] rfl rfl rfl rfl ?_)
  refine Tk_seq (Tk_region (Tops_step rfl (OpT_loadCA (vs := [vB place2.1.Packed, vI place2.1.Size, vU64 place2.1.Desc, vU64 place2.1.Driver, vU64 place2.1.Device]) rfl rfl rfl rfl tyF27 (i := 1) rfl rfl rfl) ?_))
  refine Tops_step rfl (OpT_move rfl rfl rfl rfl) ?_
  refine Tops_step rfl (OpT_move rfl rfl rfl rfl) ?_
  obtain ⟨where2, hx11, h⟩ := ob_e h
  refine Tops_exP rfl (OpT_call (w_layout_Where hx11) [] [] rfl rfl rfl rfl rfl callee12 rfl rfl rfl rfl) ?_
  rintro _ ⟨_, _, _, ⟨rfl, rfl, rfl⟩, rfl⟩
  refine Tops_step rfl (OpT_move rfl rfl rfl rfl) ?_
  refine Tops_step rfl (OpT_extract rfl rfl rfl rfl rfl) ?_
  refine Tops_step rfl (OpT_extract rfl rfl rfl rfl rfl) ?_
  refine Tops_step rfl (OpT_extract rfl rfl rfl rfl rfl) ?_
  refine Tops_step rfl (OpT_assign rfl rfl rfl rfl) ?_
  refine Tops_step rfl (OpT_assign rfl rfl rfl rfl) ?_
  refine Tops_step rfl (OpT_assign rfl rfl rfl rfl) ?_
  refine Tops_nil (Tk_wkS (fr' := [(2, some (vU64 ((base % (1099511627776 : UInt64)) * (16 : UInt64)))), (11, some (.pointer (some ⟨b1, 0, none⟩))), (14, some (.pointer (some ⟨b2, 0, none⟩))), (26, some (vU64 where1.1)), (27, some (vI where1.2.1)), (28, some (vI where1.2.2)), (29, some (vU64 where2.1)), (30, some (vI where2.2.1)), (31, some (vI where2.2.2))]) (own' := [some (cellsR b1 27 [vB place1.1.Packed, vI place1.1.Size, vU64 place1.1.Desc, vU64 place1.1.Driver, vU64 place1.1.Device]), some (cellsR b2 27 [vB place2.1.Packed, vI place2.1.Size, vU64 place2.1.Desc, vU64 place2.1.Driver, vU64 place2.1.Device])]) (shr' := []) [2, 11, 14, 26, 27, 28, 29, 30, 31] [0, 1] [] rfl rfl rfl rfl ?_)
  refine Tk_seq (Tk_seq (Tk_region (Tops_step rfl (OpT_move rfl rfl rfl rfl) ?_)))
  refine Tops_step rfl (OpT_move rfl rfl rfl rfl) ?_
  refine Tops_step rfl (OpT_bin rfl rfl rfl rfl rfl (bin_neq_i (a := where1.2.2) (b := where2.2.2))) ?_
  refine Tops_step rfl (OpT_move rfl rfl rfl rfl) ?_
  obtain ⟨hg11, h⟩ := chk_e h
  replace hg11 := not_t hg11
  refine Tops_yes rfl rfl (congrArg (fun b => some (Value.bool b)) hg11) (OpT_move rfl rfl rfl rfl) ?_
  rintro _ rfl
  refine Tops_yes rfl rfl (congrArg (fun b => some (Value.bool b)) hg11) (OpT_move rfl rfl rfl rfl) ?_
  rintro _ rfl
  refine Tops_yes rfl rfl (congrArg (fun b => some (Value.bool b)) hg11) (OpT_bin rfl rfl rfl rfl rfl (bin_neq_i (a := where1.2.1) (b := where2.2.1))) ?_
  rintro _ rfl
  refine Tops_step rfl (OpT_pickF rfl rfl rfl (congrArg (fun b => some (Value.bool b)) hg11) rfl) ?_
  refine Tops_step rfl (OpT_move rfl rfl rfl rfl) ?_
  obtain ⟨hg12, h⟩ := chk_e h
  replace hg12 := not_t hg12
  refine Tops_yes rfl rfl (congrArg (fun b => some (Value.bool b)) hg12) (OpT_move rfl rfl rfl rfl) ?_
  rintro _ rfl
  refine Tops_yes rfl rfl (congrArg (fun b => some (Value.bool b)) hg12) (OpT_bin rfl rfl rfl rfl rfl (bin_eql_i (a := where1.2.2) (b := (0 : Int)))) ?_
  rintro _ rfl
  refine Tops_yes rfl rfl (congrArg (fun b => some (Value.bool b)) hg12) (OpT_move rfl rfl rfl rfl) ?_
  rintro _ rfl
  rcases Bool.eq_false_or_eq_true (where1.2.2 == (0 : Int)) with hg13 | hg13
  ·replace h := br_t hg13 h
   refine Tops_yes rfl rfl (congrArg (fun b => some (Value.bool b)) hg13) (OpT_move rfl rfl rfl rfl) ?_
   rintro _ rfl
   refine Tops_yes rfl rfl (congrArg (fun b => some (Value.bool b)) hg13) (OpT_move rfl rfl rfl rfl) ?_
   rintro _ rfl
   refine Tops_yes rfl rfl (congrArg (fun b => some (Value.bool b)) hg13) (OpT_bin rfl rfl rfl rfl rfl (bin_sub_u64 (a := where2.1) (b := where1.1))) ?_
   rintro _ rfl
   refine Tops_yes rfl rfl (congrArg (fun b => some (Value.bool b)) hg13) (OpT_move rfl rfl rfl rfl) ?_
   rintro _ rfl
   refine Tops_yes rfl rfl (congrArg (fun b => some (Value.bool b)) hg13) (OpT_bin rfl rfl rfl rfl rfl (bin_neq_u64 (a := where2.1 - where1.1) (b := (base % (1099511627776 : UInt64)) * (16 : UInt64)))) ?_
   rintro _ rfl
   refine Tops_yes rfl rfl (congrArg (fun b => some (Value.bool b)) hg12) (OpT_pickT rfl rfl rfl (congrArg (fun b => some (Value.bool b)) hg13) rfl) ?_
   rintro _ rfl
   refine Tops_step rfl (OpT_pickF rfl rfl rfl (congrArg (fun b => some (Value.bool b)) hg12) rfl) ?_
   refine Tops_nil (Tk_wkS (fr' := [(2, some (vU64 ((base % (1099511627776 : UInt64)) * (16 : UInt64)))), (11, some (.pointer (some ⟨b1, 0, none⟩))), (14, some (.pointer (some ⟨b2, 0, none⟩))), (173, some (vB ((where2.1 - where1.1) != ((base % (1099511627776 : UInt64)) * (16 : UInt64)))))]) (own' := [some (cellsR b1 27 [vB place1.1.Packed, vI place1.1.Size, vU64 place1.1.Desc, vU64 place1.1.Driver, vU64 place1.1.Device]), some (cellsR b2 27 [vB place2.1.Packed, vI place2.1.Size, vU64 place2.1.Desc, vU64 place2.1.Driver, vU64 place2.1.Device])]) (shr' := []) [2, 11, 14, 173] [0, 1] [] rfl rfl rfl rfl ?_)
   obtain ⟨hg14, h⟩ := chk_e h
   replace hg14 := not_t hg14
   refine Tk_condF (congrArg (fun b => some (Value.bool b)) hg14) ?_
   refine Tk_skip (Tk_seq (Tk_region (Tops_step rfl (OpT_fieldC rfl rfl rfl rfl fldF27x2) ?_)))
   refine Tops_step rfl (OpT_loadC rfl rfl rfl rfl tyF22 (i := 1) rfl rfl) ?_
   refine Tops_step rfl (OpT_fieldC rfl rfl rfl rfl fldF27x2) ?_
   refine Tops_step rfl (OpT_loadC rfl rfl rfl rfl tyF22 (i := 0) rfl rfl) ?_
   refine Tops_step rfl (OpT_bin rfl rfl rfl rfl rfl (bin_sub_u64 (a := place2.1.Desc) (b := place1.1.Desc))) ?_
   refine Tops_step rfl (OpT_move rfl rfl rfl rfl) ?_
   refine Tops_step rfl (OpT_bin rfl rfl rfl rfl rfl (bin_eql_u64 (a := place2.1.Desc - place1.1.Desc) (b := (base % (1099511627776 : UInt64)) * (16 : UInt64)))) ?_
   refine Tops_step rfl (OpT_move rfl rfl rfl rfl) ?_
   obtain ⟨hg15, h⟩ := chk_e h
   refine Tops_yes rfl rfl (congrArg (fun b => some (Value.bool b)) hg15) (OpT_fieldC rfl rfl rfl rfl fldF27x3) ?_
   rintro _ rfl
   refine Tops_yes rfl rfl (congrArg (fun b => some (Value.bool b)) hg15) (OpT_loadC rfl rfl rfl rfl tyF22 (i := 1) rfl rfl) ?_
   rintro _ rfl
   refine Tops_yes rfl rfl (congrArg (fun b => some (Value.bool b)) hg15) (OpT_fieldC rfl rfl rfl rfl fldF27x3) ?_
   rintro _ rfl
   refine Tops_yes rfl rfl (congrArg (fun b => some (Value.bool b)) hg15) (OpT_loadC rfl rfl rfl rfl tyF22 (i := 0) rfl rfl) ?_
   rintro _ rfl
   refine Tops_yes rfl rfl (congrArg (fun b => some (Value.bool b)) hg15) (OpT_bin rfl rfl rfl rfl rfl (bin_sub_u64 (a := place2.1.Driver) (b := place1.1.Driver))) ?_
   rintro _ rfl
   refine Tops_yes rfl rfl (congrArg (fun b => some (Value.bool b)) hg15) (OpT_move rfl rfl rfl rfl) ?_
   rintro _ rfl
   refine Tops_yes rfl rfl (congrArg (fun b => some (Value.bool b)) hg15) (OpT_bin rfl rfl rfl rfl rfl (bin_eql_u64 (a := place2.1.Driver - place1.1.Driver) (b := (base % (1099511627776 : UInt64)) * (16 : UInt64)))) ?_
   rintro _ rfl
   refine Tops_step rfl (OpT_pickT rfl rfl rfl (congrArg (fun b => some (Value.bool b)) hg15) rfl) ?_
   refine Tops_step rfl (OpT_move rfl rfl rfl rfl) ?_
   obtain ⟨hg16, h⟩ := chk_e h
   refine Tops_yes rfl rfl (congrArg (fun b => some (Value.bool b)) hg16) (OpT_fieldC rfl rfl rfl rfl fldF27x4) ?_
   rintro _ rfl
   refine Tops_yes rfl rfl (congrArg (fun b => some (Value.bool b)) hg16) (OpT_loadC rfl rfl rfl rfl tyF22 (i := 1) rfl rfl) ?_
   rintro _ rfl
   refine Tops_yes rfl rfl (congrArg (fun b => some (Value.bool b)) hg16) (OpT_fieldC rfl rfl rfl rfl fldF27x4) ?_
   rintro _ rfl
   refine Tops_yes rfl rfl (congrArg (fun b => some (Value.bool b)) hg16) (OpT_loadC rfl rfl rfl rfl tyF22 (i := 0) rfl rfl) ?_
   rintro _ rfl
   refine Tops_yes rfl rfl (congrArg (fun b => some (Value.bool b)) hg16) (OpT_bin rfl rfl rfl rfl rfl (bin_sub_u64 (a := place2.1.Device) (b := place1.1.Device))) ?_
   rintro _ rfl
   refine Tops_yes rfl rfl (congrArg (fun b => some (Value.bool b)) hg16) (OpT_move rfl rfl rfl rfl) ?_
   rintro _ rfl
   refine Tops_yes rfl rfl (congrArg (fun b => some (Value.bool b)) hg16) (OpT_bin rfl rfl rfl rfl rfl (bin_eql_u64 (a := place2.1.Device - place1.1.Device) (b := (base % (1099511627776 : UInt64)) * (16 : UInt64)))) ?_
   rintro _ rfl
   refine Tops_step rfl (OpT_pickT rfl rfl rfl (congrArg (fun b => some (Value.bool b)) hg16) rfl) ?_
   refine Tops_step rfl (OpT_move rfl rfl rfl rfl) ?_
   obtain ⟨hg17, h⟩ := chk_e h
   refine Tops_yes rfl rfl (congrArg (fun b => some (Value.bool b)) hg17) (OpT_loadCA (vs := [vB place2.1.Packed, vI place2.1.Size, vU64 place2.1.Desc, vU64 place2.1.Driver, vU64 place2.1.Device]) rfl rfl rfl rfl tyF27 (i := 1) rfl rfl rfl) ?_
   rintro _ rfl
   obtain ⟨check1, hx12, h⟩ := ob_e h
   refine Tops_yes rfl rfl (congrArg (fun b => some (Value.bool b)) hg17) (OpT_call (w_layout_Check hx12) [] [] rfl rfl rfl rfl rfl callee13 rfl rfl rfl rfl) ?_
   rintro _ ⟨_, _, _, ⟨rfl, rfl, rfl⟩, rfl⟩
   refine Tops_yes rfl rfl (congrArg (fun b => some (Value.bool b)) hg17) (OpT_bin rfl rfl rfl rfl rfl (bin_eql_i (a := check1) (b := (0 : Int)))) ?_
   rintro _ rfl
   refine Tops_step rfl (OpT_pickT rfl rfl rfl (congrArg (fun b => some (Value.bool b)) hg17) rfl) ?_
   refine Tops_step rfl (OpT_assign rfl rfl rfl rfl) ?_
   refine Tops_nil (Tk_wkS (fr' := [(10, some (vB (check1 == (0 : Int))))]) (own' := []) (shr' := []) [10] [] [] rfl rfl rfl rfl ?_)
   obtain ⟨hg18, h⟩ := chk_e h
   exact Tk_retV rfl rfl (resA (vs := [.bool true]) rfl ⟨(congrArg (fun b => some (Value.bool b)) hg18), trivial⟩) [] [] rfl rfl rfl ⟨rfl, rfl, rfl⟩
  ·replace h := br_f hg13 h
   refine Tops_no rfl rfl (congrArg (fun b => some (Value.bool b)) hg13) rfl rfl ?_
   refine Tops_no rfl rfl (congrArg (fun b => some (Value.bool b)) hg13) rfl rfl ?_
   refine Tops_no rfl rfl (congrArg (fun b => some (Value.bool b)) hg13) rfl rfl ?_
   refine Tops_no rfl rfl (congrArg (fun b => some (Value.bool b)) hg13) rfl rfl ?_
   refine Tops_no rfl rfl (congrArg (fun b => some (Value.bool b)) hg13) rfl rfl ?_
   refine Tops_yes rfl rfl (congrArg (fun b => some (Value.bool b)) hg12) (OpT_pickF rfl rfl rfl (congrArg (fun b => some (Value.bool b)) hg13) rfl) ?_
   rintro _ rfl
   refine Tops_step rfl (OpT_pickF rfl rfl rfl (congrArg (fun b => some (Value.bool b)) hg12) rfl) ?_
   refine Tops_nil (Tk_wkS (fr' := [(2, some (vU64 ((base % (1099511627776 : UInt64)) * (16 : UInt64)))), (11, some (.pointer (some ⟨b1, 0, none⟩))), (14, some (.pointer (some ⟨b2, 0, none⟩))), (173, some (vB false))]) (own' := [some (cellsR b1 27 [vB place1.1.Packed, vI place1.1.Size, vU64 place1.1.Desc, vU64 place1.1.Driver, vU64 place1.1.Device]), some (cellsR b2 27 [vB place2.1.Packed, vI place2.1.Size, vU64 place2.1.Desc, vU64 place2.1.Driver, vU64 place2.1.Device])]) (shr' := []) [2, 11, 14, 173] [0, 1] [] rfl rfl rfl rfl ?_)
   refine Tk_condF rfl ?_
   refine Tk_skip (Tk_seq (Tk_region (Tops_step rfl (OpT_fieldC rfl rfl rfl rfl fldF27x2) ?_)))
   refine Tops_step rfl (OpT_loadC rfl rfl rfl rfl tyF22 (i := 1) rfl rfl) ?_
   refine Tops_step rfl (OpT_fieldC rfl rfl rfl rfl fldF27x2) ?_
   refine Tops_step rfl (OpT_loadC rfl rfl rfl rfl tyF22 (i := 0) rfl rfl) ?_
   refine Tops_step rfl (OpT_bin rfl rfl rfl rfl rfl (bin_sub_u64 (a := place2.1.Desc) (b := place1.1.Desc))) ?_
   refine Tops_step rfl (OpT_move rfl rfl rfl rfl) ?_
   refine Tops_step rfl (OpT_bin rfl rfl rfl rfl rfl (bin_eql_u64 (a := place2.1.Desc - place1.1.Desc) (b := (base % (1099511627776 : UInt64)) * (16 : UInt64)))) ?_
   refine Tops_step rfl (OpT_move rfl rfl rfl rfl) ?_
   obtain ⟨hg19, h⟩ := chk_e h
   refine Tops_yes rfl rfl (congrArg (fun b => some (Value.bool b)) hg19) (OpT_fieldC rfl rfl rfl rfl fldF27x3) ?_
   rintro _ rfl
   refine Tops_yes rfl rfl (congrArg (fun b => some (Value.bool b)) hg19) (OpT_loadC rfl rfl rfl rfl tyF22 (i := 1) rfl rfl) ?_
   rintro _ rfl
   refine Tops_yes rfl rfl (congrArg (fun b => some (Value.bool b)) hg19) (OpT_fieldC rfl rfl rfl rfl fldF27x3) ?_
   rintro _ rfl
   refine Tops_yes rfl rfl (congrArg (fun b => some (Value.bool b)) hg19) (OpT_loadC rfl rfl rfl rfl tyF22 (i := 0) rfl rfl) ?_
   rintro _ rfl
   refine Tops_yes rfl rfl (congrArg (fun b => some (Value.bool b)) hg19) (OpT_bin rfl rfl rfl rfl rfl (bin_sub_u64 (a := place2.1.Driver) (b := place1.1.Driver))) ?_
   rintro _ rfl
   refine Tops_yes rfl rfl (congrArg (fun b => some (Value.bool b)) hg19) (OpT_move rfl rfl rfl rfl) ?_
   rintro _ rfl
   refine Tops_yes rfl rfl (congrArg (fun b => some (Value.bool b)) hg19) (OpT_bin rfl rfl rfl rfl rfl (bin_eql_u64 (a := place2.1.Driver - place1.1.Driver) (b := (base % (1099511627776 : UInt64)) * (16 : UInt64)))) ?_
   rintro _ rfl
   refine Tops_step rfl (OpT_pickT rfl rfl rfl (congrArg (fun b => some (Value.bool b)) hg19) rfl) ?_
   refine Tops_step rfl (OpT_move rfl rfl rfl rfl) ?_
   obtain ⟨hg20, h⟩ := chk_e h
   refine Tops_yes rfl rfl (congrArg (fun b => some (Value.bool b)) hg20) (OpT_fieldC rfl rfl rfl rfl fldF27x4) ?_
   rintro _ rfl
   refine Tops_yes rfl rfl (congrArg (fun b => some (Value.bool b)) hg20) (OpT_loadC rfl rfl rfl rfl tyF22 (i := 1) rfl rfl) ?_
   rintro _ rfl
   refine Tops_yes rfl rfl (congrArg (fun b => some (Value.bool b)) hg20) (OpT_fieldC rfl rfl rfl rfl fldF27x4) ?_
   rintro _ rfl
   refine Tops_yes rfl rfl (congrArg (fun b => some (Value.bool b)) hg20) (OpT_loadC rfl rfl rfl rfl tyF22 (i := 0) rfl rfl) ?_
   rintro _ rfl
   refine Tops_yes rfl rfl (congrArg (fun b => some (Value.bool b)) hg20) (OpT_bin rfl rfl rfl rfl rfl (bin_sub_u64 (a := place2.1.Device) (b := place1.1.Device))) ?_
   rintro _ rfl
   refine Tops_yes rfl rfl (congrArg (fun b => some (Value.bool b)) hg20) (OpT_move rfl rfl rfl rfl) ?_
   rintro _ rfl
   refine Tops_yes rfl rfl (congrArg (fun b => some (Value.bool b)) hg20) (OpT_bin rfl rfl rfl rfl rfl (bin_eql_u64 (a := place2.1.Device - place1.1.Device) (b := (base % (1099511627776 : UInt64)) * (16 : UInt64)))) ?_
   rintro _ rfl
   refine Tops_step rfl (OpT_pickT rfl rfl rfl (congrArg (fun b => some (Value.bool b)) hg20) rfl) ?_
   refine Tops_step rfl (OpT_move rfl rfl rfl rfl) ?_
   obtain ⟨hg21, h⟩ := chk_e h
   refine Tops_yes rfl rfl (congrArg (fun b => some (Value.bool b)) hg21) (OpT_loadCA (vs := [vB place2.1.Packed, vI place2.1.Size, vU64 place2.1.Desc, vU64 place2.1.Driver, vU64 place2.1.Device]) rfl rfl rfl rfl tyF27 (i := 1) rfl rfl rfl) ?_
   rintro _ rfl
   obtain ⟨check2, hx13, h⟩ := ob_e h
   refine Tops_yes rfl rfl (congrArg (fun b => some (Value.bool b)) hg21) (OpT_call (w_layout_Check hx13) [] [] rfl rfl rfl rfl rfl callee13 rfl rfl rfl rfl) ?_
   rintro _ ⟨_, _, _, ⟨rfl, rfl, rfl⟩, rfl⟩
   refine Tops_yes rfl rfl (congrArg (fun b => some (Value.bool b)) hg21) (OpT_bin rfl rfl rfl rfl rfl (bin_eql_i (a := check2) (b := (0 : Int)))) ?_
   rintro _ rfl
   refine Tops_step rfl (OpT_pickT rfl rfl rfl (congrArg (fun b => some (Value.bool b)) hg21) rfl) ?_
   refine Tops_step rfl (OpT_assign rfl rfl rfl rfl) ?_
   refine Tops_nil (Tk_wkS (fr' := [(10, some (vB (check2 == (0 : Int))))]) (own' := []) (shr' := []) [10] [] [] rfl rfl rfl rfl ?_)
   obtain ⟨hg22, h⟩ := chk_e h
   exact Tk_retV rfl rfl (resA (vs := [.bool true]) rfl ⟨(congrArg (fun b => some (Value.bool b)) hg22), trivial⟩) [] [] rfl rfl rfl ⟨rfl, rfl, rfl⟩
 ·replace h := br_f hg8 h
  refine Tops_no rfl rfl (congrArg (fun b => some (Value.bool b)) hg8) rfl rfl ?_
  refine Tops_no rfl rfl (congrArg (fun b => some (Value.bool b)) hg8) rfl rfl ?_
  refine Tops_no rfl rfl (congrArg (fun b => some (Value.bool b)) hg8) rfl rfl ?_
  refine Tops_no rfl rfl (congrArg (fun b => some (Value.bool b)) hg8) rfl rfl ?_
  refine Tops_noU rfl rfl rfl rfl rfl ?_
  refine Tops_noU rfl rfl rfl rfl rfl ?_
  refine Tops_noU rfl rfl rfl rfl rfl ?_
  refine Tops_no rfl rfl (congrArg (fun b => some (Value.bool b)) hg8) rfl rfl ?_
  refine Tops_yes rfl rfl (congrArg (fun b => some (Value.bool b)) hg7) (OpT_pickF rfl rfl rfl (congrArg (fun b => some (Value.bool b)) hg8) rfl) ?_
  rintro _ rfl
  refine Tops_step rfl (OpT_pickF rfl rfl rfl (congrArg (fun b => some (Value.bool b)) hg7) rfl) ?_
  refine Tops_step rfl (OpT_move rfl rfl rfl rfl) ?_
  refine Tops_yes rfl rfl rfl (OpT_move rfl rfl rfl rfl) ?_
  rintro _ rfl
  refine Tops_yes rfl rfl rfl (OpT_not rfl rfl rfl rfl) ?_
  rintro _ rfl
  refine Tops_yes rfl rfl rfl (OpT_move rfl rfl rfl rfl) ?_
  rintro _ rfl
  refine Tops_yes rfl rfl (congrArg (fun b => some (Value.bool b)) (congrArg (!·) hg8)) (OpT_move rfl rfl rfl rfl) ?_
  rintro _ rfl
  refine Tops_yes rfl rfl (congrArg (fun b => some (Value.bool b)) (congrArg (!·) hg8)) (OpT_bin rfl rfl rfl rfl rfl (bin_sub_u64 (a := parts2.2.1) (b := (6 : UInt64)))) ?_
  rintro _ rfl
  refine Tops_yes rfl rfl (congrArg (fun b => some (Value.bool b)) (congrArg (!·) hg8)) (OpT_move rfl rfl rfl rfl) ?_
  rintro _ rfl
  refine Tops_yes rfl rfl (congrArg (fun b => some (Value.bool b)) (congrArg (!·) hg8)) (OpT_bin rfl rfl rfl rfl rfl (bin_sub_u64 (a := parts1.2.1) (b := (6 : UInt64)))) ?_
  rintro _ rfl
  refine Tops_yes rfl rfl (congrArg (fun b => some (Value.bool b)) (congrArg (!·) hg8)) (OpT_bin rfl rfl rfl rfl rfl (bin_mul_u64 (a := (2 : UInt64)) (b := parts1.2.1 - (6 : UInt64)))) ?_
  rintro _ rfl
  refine Tops_yes rfl rfl (congrArg (fun b => some (Value.bool b)) (congrArg (!·) hg8)) (OpT_bin rfl rfl rfl rfl rfl (bin_neq_u64 (a := parts2.2.1 - (6 : UInt64)) (b := (2 : UInt64) * (parts1.2.1 - (6 : UInt64))))) ?_
  rintro _ rfl
  refine Tops_yes rfl rfl (congrArg (fun b => some (Value.bool b)) (congrArg (!·) hg8)) (OpT_move rfl rfl rfl rfl) ?_
  rintro _ rfl
  obtain ⟨hg23, h⟩ := chk_e h
  replace hg23 := not_t hg23
  refine Tops_yes rfl rfl (congrArg (fun b => some (Value.bool b)) hg23) (OpT_move rfl rfl rfl rfl) ?_
  rintro _ rfl
  refine Tops_yes rfl rfl (congrArg (fun b => some (Value.bool b)) hg23) (OpT_bin rfl rfl rfl rfl rfl (bin_sub_u64 (a := parts2.2.2) (b := (6 : UInt64)))) ?_
  rintro _ rfl
  refine Tops_yes rfl rfl (congrArg (fun b => some (Value.bool b)) hg23) (OpT_move rfl rfl rfl rfl) ?_
  rintro _ rfl
  refine Tops_yes rfl rfl (congrArg (fun b => some (Value.bool b)) hg23) (OpT_bin rfl rfl rfl rfl rfl (bin_sub_u64 (a := parts1.2.2) (b := (6 : UInt64)))) ?_
  rintro _ rfl
  refine Tops_yes rfl rfl (congrArg (fun b => some (Value.bool b)) hg23) (OpT_bin rfl rfl rfl rfl rfl (bin_mul_u64 (a := (2 : UInt64)) (b := parts1.2.2 - (6 : UInt64)))) ?_
  rintro _ rfl
  refine Tops_yes rfl rfl (congrArg (fun b => some (Value.bool b)) hg23) (OpT_bin rfl rfl rfl rfl rfl (bin_neq_u64 (a := parts2.2.2 - (6 : UInt64)) (b := (2 : UInt64) * (parts1.2.2 - (6 : UInt64))))) ?_
  rintro _ rfl
  refine Tops_yes rfl rfl (congrArg (fun b => some (Value.bool b)) (congrArg (!·) hg8)) (OpT_pickF rfl rfl rfl (congrArg (fun b => some (Value.bool b)) hg23) rfl) ?_
  rintro _ rfl
  refine Tops_yes rfl rfl rfl (OpT_pickT rfl rfl rfl (congrArg (fun b => some (Value.bool b)) (congrArg (!·) hg8)) rfl) ?_
  rintro _ rfl
  refine Tops_step rfl (OpT_pickF rfl rfl rfl rfl rfl) ?_
  refine Tops_nil (Tk_wkS (fr' := [(1, some (vI (shli (1 : Int) ((u64 pick1).toNat)))), (2, some (vU64 ((base % (1099511627776 : UInt64)) * (16 : UInt64)))), (3, some (vI what)), (4, some (vI ip4)), (11, some (.pointer (some ⟨b1, 0, none⟩))), (14, some (.pointer (some ⟨b2, 0, none⟩))), (132, some (vB ((parts2.2.2 - (6 : UInt64)) != ((2 : UInt64) * (parts1.2.2 - (6 : UInt64))))))]) (own' := [some (cellsR b1 27 [vB place1.1.Packed, vI place1.1.Size, vU64 place1.1.Desc, vU64 place1.1.Driver, vU64 place1.1.Device]), some (cellsR b2 27 [vB place2.1.Packed, vI place2.1.Size, vU64 place2.1.Desc, vU64 place2.1.Driver, vU64 place2.1.Device])]) (shr' := []) [1, 2, 3, 4, 11, 14, 132] [0, 1] [] rfl rfl rfl rfl ?_)
  obtain ⟨hg24, h⟩ := chk_e h
  replace hg24 := not_t hg24
  refine Tk_condF (congrArg (fun b => some (Value.bool b)) hg24) ?_
  refine Tk_skip (Tk_seq (Tk_region (Tops_step rfl (OpT_move rfl rfl rfl rfl) ?_)))
  obtain ⟨pick4, hx14, h⟩ := ob_e h
  refine Tops_exP rfl (OpT_call (w_kit_Pick hx14) [] [] rfl rfl rfl rfl rfl callee9 rfl rfl rfl rfl) ?_
  rintro _ ⟨_, _, _, ⟨rfl, rfl, rfl⟩, rfl⟩
  refine Tops_step rfl (OpT_bin rfl rfl rfl rfl rfl (bin_add_i (a := (1 : Int)) (b := pick4))) ?_
  refine Tops_step rfl (OpT_move rfl rfl rfl rfl) ?_
  refine Tops_step rfl (OpT_move rfl rfl rfl rfl) ?_
  obtain ⟨pick5, hx15, h⟩ := ob_e h
  refine Tops_exP rfl (OpT_call (w_kit_Pick hx15) [] [] rfl rfl rfl rfl rfl callee9 rfl rfl rfl rfl) ?_
  rintro _ ⟨_, _, _, ⟨rfl, rfl, rfl⟩, rfl⟩
  refine Tops_step rfl (OpT_assign rfl rfl rfl rfl) ?_
  refine Tops_step rfl (OpT_assign rfl rfl rfl rfl) ?_
  refine Tops_nil (Tk_wkS (fr' := [(2, some (vU64 ((base % (1099511627776 : UInt64)) * (16 : UInt64)))), (3, some (vI (wi ((1 : Int) + pick4)))), (4, some (vI pick5)), (11, some (.pointer (some ⟨b1, 0, none⟩))), (14, some (.pointer (some ⟨b2, 0, none⟩)))]) (own' := [some (cellsR b1 27 [vB place1.1.Packed, vI place1.1.Size, vU64 place1.1.Desc, vU64 place1.1.Driver, vU64 place1.1.Device]), some (cellsR b2 27 [vB place2.1.Packed, vI place2.1.Size, vU64 place2.1.Desc, vU64 place2.1.Driver, vU64 place2.1.Device])]) (shr' := []) [2, 3, 4, 11, 14] [0, 1] [] rfl rfl rfl rfl ?_)
  refine Tk_seq (Tk_region (Tops_step rfl (OpT_loadCA (vs := [vB place1.1.Packed, vI place1.1.Size, vU64 place1.1.Desc, vU64 place1.1.Driver, vU64 place1.1.Device]) rfl rfl rfl rfl tyF27 (i := 0) rfl rfl rfl) ?_))
  refine Tops_step rfl (OpT_move rfl rfl rfl rfl) ?_
  refine Tops_step rfl (OpT_move rfl rfl rfl rfl) ?_
  obtain ⟨where3, hx16, h⟩ := ob_e h
  refine Tops_exP rfl (OpT_call (w_layout_Where hx16) [] [] rfl rfl rfl rfl rfl callee12 rfl rfl rfl rfl) ?_
  rintro _ ⟨_, _, _, ⟨rfl, rfl, rfl⟩, rfl⟩
  refine Tops_step rfl (OpT_move rfl rfl rfl rfl) ?_
  refine Tops_step rfl (OpT_extract rfl rfl rfl rfl rfl) ?_
  refine Tops_step rfl (OpT_extract rfl rfl rfl rfl rfl) ?_
  refine Tops_step rfl (OpT_extract rfl rfl rfl rfl rfl) ?_
  refine Tops_step rfl (OpT_assign rfl rfl rfl rfl) ?_
  refine Tops_step rfl (OpT_assign rfl rfl rfl rfl) ?_
  refine Tops_step rfl (OpT_assign rfl rfl rfl rfl) ?_
  refine Tops_nil (Tk_wkS (fr' := [(2, some (vU64 ((base % (1099511627776 : UInt64)) * (16 : UInt64)))), (3, some (vI (wi ((1 : Int) + pick4)))), (4, some (vI pick5)), (11, some (.pointer (some ⟨b1, 0, none⟩))), (14, some (.pointer (some ⟨b2, 0, none⟩))), (26, some (vU64 where3.1)), (27, some (vI where3.2.1)), (28, some (vI where3.2.2))]) (own' := [some (cellsR b1 27 [vB place1.1.Packed, vI place1.1.Size, vU64 place1.1.Desc, vU64 place1.1.Driver, vU64 place1.1.Device]), some (cellsR b2 27 [vB place2.1.Packed, vI place2.1.Size, vU64 place2.1.Desc, vU64 place2.1.Driver, vU64 place2.1.Device])]) (shr' := []) [2, 3, 4, 11, 14, 26, 27, 28] [0, 1] [] rfl rfl rfl rfl ?_)
  refine Tk_seq (Tk_region (Tops_step rfl (OpT_loadCA (vs := [vB place2.1.Packed, vI place2.1.Size, vU64 place2.1.Desc, vU64 place2.1.Driver, vU64 place2.1.Device]) rfl rfl rfl rfl tyF27 (i := 1) rfl rfl rfl) ?_))
  refine Tops_step rfl (OpT_move rfl rfl rfl rfl) ?_
  refine Tops_step rfl (OpT_move rfl rfl rfl rfl) ?_
  obtain ⟨where4, hx17, h⟩ := ob_e h
  refine Tops_exP rfl (OpT_call (w_layout_Where hx17) [] [] rfl rfl rfl rfl rfl callee12 rfl rfl rfl rfl) ?_
  rintro _ ⟨_, _, _, ⟨rfl, rfl, rfl⟩, rfl⟩
  refine Tops_step rfl (OpT_move rfl rfl rfl rfl) ?_
  refine Tops_step rfl (OpT_extract rfl rfl rfl rfl rfl) ?_
  refine Tops_step rfl (OpT_extract rfl rfl rfl rfl rfl) ?_
  refine Tops_step rfl (OpT_extract rfl rfl rfl rfl rfl) ?_
  refine Tops_step rfl (OpT_assign rfl rfl rfl rfl) ?_
  refine Tops_step rfl (OpT_assign rfl rfl rfl rfl) ?_
  refine Tops_step rfl (OpT_assign rfl rfl rfl rfl) ?_
  refine Tops_nil (Tk_wkS (fr' := [(2, some (vU64 ((base % (1099511627776 : UInt64)) * (16 : UInt64)))), (11, some (.pointer (some ⟨b1, 0, none⟩))), (14, some (.pointer (some ⟨b2, 0, none⟩))), (26, some (vU64 where3.1)), (27, some (vI where3.2.1)), (28, some (vI where3.2.2)), (29, some (vU64 where4.1)), (30, some (vI where4.2.1)), (31, some (vI where4.2.2))]) (own' := [some (cellsR b1 27 [vB place1.1.Packed, vI place1.1.Size, vU64 place1.1.Desc, vU64 place1.1.Driver, vU64 place1.1.Device]), some (cellsR b2 27 [vB place2.1.Packed, vI place2.1.Size, vU64 place2.1.Desc, vU64 place2.1.Driver, vU64 place2.1.Device])]) (shr' := []) [2, 11, 14, 26, 27, 28, 29, 30, 31] [0, 1] [] rfl rfl rfl rfl ?_)
  refine Tk_seq (Tk_seq (Tk_region (Tops_step rfl (OpT_move rfl rfl rfl rfl) ?_)))
  refine Tops_step rfl (OpT_move rfl rfl rfl rfl) ?_
  refine Tops_step rfl (OpT_bin rfl rfl rfl rfl rfl (bin_neq_i (a := where3.2.2) (b := where4.2.2))) ?_
  refine Tops_step rfl (OpT_move rfl rfl rfl rfl) ?_
  obtain ⟨hg25, h⟩ := chk_e h
  replace hg25 := not_t hg25
  refine Tops_yes rfl rfl (congrArg (fun b => some (Value.bool b)) hg25) (OpT_move rfl rfl rfl rfl) ?_
  rintro _ rfl
  refine Tops_yes rfl rfl (congrArg (fun b => some (Value.bool b)) hg25) (OpT_move rfl rfl rfl rfl) ?_
  rintro _ rfl
  refine Tops_yes rfl rfl (congrArg (fun b => some (Value.bool b)) hg25) (OpT_bin rfl rfl rfl rfl rfl (bin_neq_i (a := where3.2.1) (b := where4.2.1))) ?_
  rintro _ rfl
  refine Tops_step rfl (OpT_pickF rfl rfl rfl (congrArg (fun b => some (Value.bool b)) hg25) rfl) ?_
  refine Tops_step rfl (OpT_move rfl rfl rfl rfl) ?_
  obtain ⟨hg26, h⟩ := chk_e h
  replace hg26 := not_t hg26
  refine Tops_yes rfl rfl (congrArg (fun b => some (Value.bool b)) hg26) (OpT_move rfl rfl rfl rfl) ?_
  rintro _ rfl
  refine Tops_yes rfl rfl (congrArg (fun b => some (Value.bool b)) hg26) (OpT_bin rfl rfl rfl rfl rfl (bin_eql_i (a := where3.2.2) (b := (0 : Int)))) ?_
  rintro _ rfl
  refine Tops_yes rfl rfl (congrArg (fun b => some (Value.bool b)) hg26) (OpT_move rfl rfl rfl rfl) ?_
  rintro _ rfl
  rcases Bool.eq_false_or_eq_true (where3.2.2 == (0 : Int)) with hg27 | hg27
  ·replace h := br_t hg27 h
   refine Tops_yes rfl rfl (congrArg (fun b => some (Value.bool b)) hg27) (OpT_move rfl rfl rfl rfl) ?_
   rintro _ rfl
   refine Tops_yes rfl rfl (congrArg (fun b => some (Value.bool b)) hg27) (OpT_move rfl rfl rfl rfl) ?_
   rintro _ rfl
   refine Tops_yes rfl rfl (congrArg (fun b => some (Value.bool b)) hg27) (OpT_bin rfl rfl rfl rfl rfl (bin_sub_u64 (a := where4.1) (b := where3.1))) ?_
   rintro _ rfl
   refine Tops_yes rfl rfl (congrArg (fun b => some (Value.bool b)) hg27) (OpT_move rfl rfl rfl rfl) ?_
   rintro _ rfl
   refine Tops_yes rfl rfl (congrArg (fun b => some (Value.bool b)) hg27) (OpT_bin rfl rfl rfl rfl rfl (bin_neq_u64 (a := where4.1 - where3.1) (b := (base % (1099511627776 : UInt64)) * (16 : UInt64)))) ?_
   rintro _ rfl
   refine Tops_yes rfl rfl (congrArg (fun b => some (Value.bool b)) hg26) (OpT_pickT rfl rfl rfl (congrArg (fun b => some (Value.bool b)) hg27) rfl) ?_
   rintro _ rfl
   refine Tops_step rfl (OpT_pickF rfl rfl rfl (congrArg (fun b => some (Value.bool b)) hg26) rfl) ?_
   refine Tops_nil (Tk_wkS (fr' := [(2, some (vU64 ((base % (1099511627776 : UInt64)) * (16 : UInt64)))), (11, some (.pointer (some ⟨b1, 0, none⟩))), (14, some (.pointer (some ⟨b2, 0, none⟩))), (173, some (vB ((where4.1 - where3.1) != ((base % (1099511627776 : UInt64)) * (16 : UInt64)))))]) (own' := [some (cellsR b1 27 [vB place1.1.Packed, vI place1.1.Size, vU64 place1.1.Desc, vU64 place1.1.Driver, vU64 place1.1.Device]), some (cellsR b2 27 [vB place2.1.Packed, vI place2.1.Size, vU64 place2.1.Desc, vU64 place2.1.Driver, vU64 place2.1.Device])]) (shr' := []) [2, 11, 14, 173] [0, 1] [] rfl rfl rfl rfl ?_)
   obtain ⟨hg28, h⟩ := chk_e h
   replace hg28 := not_t hg28
   refine Tk_condF (congrArg (fun b => some (Value.bool b)) hg28) ?_
   refine Tk_skip (Tk_seq (Tk_region (Tops_step rfl (OpT_fieldC rfl rfl rfl rfl fldF27x2) ?_)))
   refine Tops_step rfl (OpT_loadC rfl rfl rfl rfl tyF22 (i := 1) rfl rfl) ?_
   refine Tops_step rfl (OpT_fieldC rfl rfl rfl rfl fldF27x2) ?_
   refine Tops_step rfl (OpT_loadC rfl rfl rfl rfl tyF22 (i := 0) rfl rfl) ?_
   refine Tops_step rfl (OpT_bin rfl rfl rfl rfl rfl (bin_sub_u64 (a := place2.1.Desc) (b := place1.1.Desc))) ?_
   refine Tops_step rfl (OpT_move rfl rfl rfl rfl) ?_
   refine Tops_step rfl (OpT_bin rfl rfl rfl rfl rfl (bin_eql_u64 (a := place2.1.Desc - place1.1.Desc) (b := (base % (1099511627776 : UInt64)) * (16 : UInt64)))) ?_
   refine Tops_step rfl (OpT_move rfl rfl rfl rfl) ?_
   obtain ⟨hg29, h⟩ := chk_e h
   refine Tops_yes rfl rfl (congrArg (fun b => some (Value.bool b)) hg29) (OpT_fieldC rfl rfl rfl rfl fldF27x3) ?_
   rintro _ rfl
   refine Tops_yes rfl rfl (congrArg (fun b => some (Value.bool b)) hg29) (OpT_loadC rfl rfl rfl rfl tyF22 (i := 1) rfl rfl) ?_
   rintro _ rfl
   refine Tops_yes rfl rfl (congrArg (fun b => some (Value.bool b)) hg29) (OpT_fieldC rfl rfl rfl rfl fldF27x3) ?_
   rintro _ rfl
   refine Tops_yes rfl rfl (congrArg (fun b => some (Value.bool b)) hg29) (OpT_loadC rfl rfl rfl rfl tyF22 (i := 0) rfl rfl) ?_
   rintro _ rfl
   refine Tops_yes rfl rfl (congrArg (fun b => some (Value.bool b)) hg29) (OpT_bin rfl rfl rfl rfl rfl (bin_sub_u64 (a := place2.1.Driver) (b := place1.1.Driver))) ?_
   rintro _ rfl
   refine Tops_yes rfl rfl (congrArg (fun b => some (Value.bool b)) hg29) (OpT_move rfl rfl rfl rfl) ?_
   rintro _ rfl
   refine Tops_yes rfl rfl (congrArg (fun b => some (Value.bool b)) hg29) (OpT_bin rfl rfl rfl rfl rfl (bin_eql_u64 (a := place2.1.Driver - place1.1.Driver) (b := (base % (1099511627776 : UInt64)) * (16 : UInt64)))) ?_
   rintro _ rfl
   refine Tops_step rfl (OpT_pickT rfl rfl rfl (congrArg (fun b => some (Value.bool b)) hg29) rfl) ?_
   refine Tops_step rfl (OpT_move rfl rfl rfl rfl) ?_
   obtain ⟨hg30, h⟩ := chk_e h
   refine Tops_yes rfl rfl (congrArg (fun b => some (Value.bool b)) hg30) (OpT_fieldC rfl rfl rfl rfl fldF27x4) ?_
   rintro _ rfl
   refine Tops_yes rfl rfl (congrArg (fun b => some (Value.bool b)) hg30) (OpT_loadC rfl rfl rfl rfl tyF22 (i := 1) rfl rfl) ?_
   rintro _ rfl
   refine Tops_yes rfl rfl (congrArg (fun b => some (Value.bool b)) hg30) (OpT_fieldC rfl rfl rfl rfl fldF27x4) ?_
   rintro _ rfl
   refine Tops_yes rfl rfl (congrArg (fun b => some (Value.bool b)) hg30) (OpT_loadC rfl rfl rfl rfl tyF22 (i := 0) rfl rfl) ?_
   rintro _ rfl
   refine Tops_yes rfl rfl (congrArg (fun b => some (Value.bool b)) hg30) (OpT_bin rfl rfl rfl rfl rfl (bin_sub_u64 (a := place2.1.Device) (b := place1.1.Device))) ?_
   rintro _ rfl
   refine Tops_yes rfl rfl (congrArg (fun b => some (Value.bool b)) hg30) (OpT_move rfl rfl rfl rfl) ?_
   rintro _ rfl
   refine Tops_yes rfl rfl (congrArg (fun b => some (Value.bool b)) hg30) (OpT_bin rfl rfl rfl rfl rfl (bin_eql_u64 (a := place2.1.Device - place1.1.Device) (b := (base % (1099511627776 : UInt64)) * (16 : UInt64)))) ?_
   rintro _ rfl
   refine Tops_step rfl (OpT_pickT rfl rfl rfl (congrArg (fun b => some (Value.bool b)) hg30) rfl) ?_
   refine Tops_step rfl (OpT_move rfl rfl rfl rfl) ?_
   obtain ⟨hg31, h⟩ := chk_e h
   refine Tops_yes rfl rfl (congrArg (fun b => some (Value.bool b)) hg31) (OpT_loadCA (vs := [vB place2.1.Packed, vI place2.1.Size, vU64 place2.1.Desc, vU64 place2.1.Driver, vU64 place2.1.Device]) rfl rfl rfl rfl tyF27 (i := 1) rfl rfl rfl) ?_
   rintro _ rfl
   obtain ⟨check3, hx18, h⟩ := ob_e h
   refine Tops_yes rfl rfl (congrArg (fun b => some (Value.bool b)) hg31) (OpT_call (w_layout_Check hx18) [] [] rfl rfl rfl rfl rfl callee13 rfl rfl rfl rfl) ?_
   rintro _ ⟨_, _, _, ⟨rfl, rfl, rfl⟩, rfl⟩
   refine Tops_yes rfl rfl (congrArg (fun b => some (Value.bool b)) hg31) (OpT_bin rfl rfl rfl rfl rfl (bin_eql_i (a := check3) (b := (0 : Int)))) ?_
   rintro _ rfl
   refine Tops_step rfl (OpT_pickT rfl rfl rfl (congrArg (fun b => some (Value.bool b)) hg31) rfl) ?_
   refine Tops_step rfl (OpT_assign rfl rfl rfl rfl) ?_
   refine Tops_nil (Tk_wkS (fr' := [(10, some (vB (check3 == (0 : Int))))]) (own' := []) (shr' := []) [10] [] [] rfl rfl rfl rfl ?_)
   obtain ⟨hg32, h⟩ := chk_e h
   exact Tk_retV rfl rfl (resA (vs := [.bool true]) rfl ⟨(congrArg (fun b => some (Value.bool b)) hg32), trivial⟩) [] [] rfl rfl rfl ⟨rfl, rfl, rfl⟩
  ·replace h := br_f hg27 h
   refine Tops_no rfl rfl (congrArg (fun b => some (Value.bool b)) hg27) rfl rfl ?_
   refine Tops_no rfl rfl (congrArg (fun b => some (Value.bool b)) hg27) rfl rfl ?_
   refine Tops_no rfl rfl (congrArg (fun b => some (Value.bool b)) hg27) rfl rfl ?_
   refine Tops_no rfl rfl (congrArg (fun b => some (Value.bool b)) hg27) rfl rfl ?_
   refine Tops_no rfl rfl (congrArg (fun b => some (Value.bool b)) hg27) rfl rfl ?_
   refine Tops_yes rfl rfl (congrArg (fun b => some (Value.bool b)) hg26) (OpT_pickF rfl rfl rfl (congrArg (fun b => some (Value.bool b)) hg27) rfl) ?_
   rintro _ rfl
   refine Tops_step rfl (OpT_pickF rfl rfl rfl (congrArg (fun b => some (Value.bool b)) hg26) rfl) ?_
   refine Tops_nil (Tk_wkS (fr' := [(2, some (vU64 ((base % (1099511627776 : UInt64)) * (16 : UInt64)))), (11, some (.pointer (some ⟨b1, 0, none⟩))), (14, some (.pointer (some ⟨b2, 0, none⟩))), (173, some (vB false))]) (own' := [some (cellsR b1 27 [vB place1.1.Packed, vI place1.1.Size, vU64 place1.1.Desc, vU64 place1.1.Driver, vU64 place1.1.Device]), some (cellsR b2 27 [vB place2.1.Packed, vI place2.1.Size, vU64 place2.1.Desc, vU64 place2.1.Driver, vU64 place2.1.Device])]) (shr' := []) [2, 11, 14, 173] [0, 1] [] rfl rfl rfl rfl ?_)
   refine Tk_condF rfl ?_
   refine Tk_skip (Tk_seq (Tk_region (Tops_step rfl (OpT_fieldC rfl rfl rfl rfl fldF27x2) ?_)))
   refine Tops_step rfl (OpT_loadC rfl rfl rfl rfl tyF22 (i := 1) rfl rfl) ?_
   refine Tops_step rfl (OpT_fieldC rfl rfl rfl rfl fldF27x2) ?_
   refine Tops_step rfl (OpT_loadC rfl rfl rfl rfl tyF22 (i := 0) rfl rfl) ?_
   refine Tops_step rfl (OpT_bin rfl rfl rfl rfl rfl (bin_sub_u64 (a := place2.1.Desc) (b := place1.1.Desc))) ?_
   refine Tops_step rfl (OpT_move rfl rfl rfl rfl) ?_
   refine Tops_step rfl (OpT_bin rfl rfl rfl rfl rfl (bin_eql_u64 (a := place2.1.Desc - place1.1.Desc) (b := (base % (1099511627776 : UInt64)) * (16 : UInt64)))) ?_
   refine Tops_step rfl (OpT_move rfl rfl rfl rfl) ?_
   obtain ⟨hg33, h⟩ := chk_e h
   refine Tops_yes rfl rfl (congrArg (fun b => some (Value.bool b)) hg33) (OpT_fieldC rfl rfl rfl rfl fldF27x3) ?_
   rintro _ rfl
   refine Tops_yes rfl rfl (congrArg (fun b => some (Value.bool b)) hg33) (OpT_loadC rfl rfl rfl rfl tyF22 (i := 1) rfl rfl) ?_
   rintro _ rfl
   refine Tops_yes rfl rfl (congrArg (fun b => some (Value.bool b)) hg33) (OpT_fieldC rfl rfl rfl rfl fldF27x3) ?_
   rintro _ rfl
   refine Tops_yes rfl rfl (congrArg (fun b => some (Value.bool b)) hg33) (OpT_loadC rfl rfl rfl rfl tyF22 (i := 0) rfl rfl) ?_
   rintro _ rfl
   refine Tops_yes rfl rfl (congrArg (fun b => some (Value.bool b)) hg33) (OpT_bin rfl rfl rfl rfl rfl (bin_sub_u64 (a := place2.1.Driver) (b := place1.1.Driver))) ?_
   rintro _ rfl
   refine Tops_yes rfl rfl (congrArg (fun b => some (Value.bool b)) hg33) (OpT_move rfl rfl rfl rfl) ?_
   rintro _ rfl
   refine Tops_yes rfl rfl (congrArg (fun b => some (Value.bool b)) hg33) (OpT_bin rfl rfl rfl rfl rfl (bin_eql_u64 (a := place2.1.Driver - place1.1.Driver) (b := (base % (1099511627776 : UInt64)) * (16 : UInt64)))) ?_
   rintro _ rfl
   refine Tops_step rfl (OpT_pickT rfl rfl rfl (congrArg (fun b => some (Value.bool b)) hg33) rfl) ?_
   refine Tops_step rfl (OpT_move rfl rfl rfl rfl) ?_
   obtain ⟨hg34, h⟩ := chk_e h
   refine Tops_yes rfl rfl (congrArg (fun b => some (Value.bool b)) hg34) (OpT_fieldC rfl rfl rfl rfl fldF27x4) ?_
   rintro _ rfl
   refine Tops_yes rfl rfl (congrArg (fun b => some (Value.bool b)) hg34) (OpT_loadC rfl rfl rfl rfl tyF22 (i := 1) rfl rfl) ?_
   rintro _ rfl
   refine Tops_yes rfl rfl (congrArg (fun b => some (Value.bool b)) hg34) (OpT_fieldC rfl rfl rfl rfl fldF27x4) ?_
   rintro _ rfl
   refine Tops_yes rfl rfl (congrArg (fun b => some (Value.bool b)) hg34) (OpT_loadC rfl rfl rfl rfl tyF22 (i := 0) rfl rfl) ?_
   rintro _ rfl
   refine Tops_yes rfl rfl (congrArg (fun b => some (Value.bool b)) hg34) (OpT_bin rfl rfl rfl rfl rfl (bin_sub_u64 (a := place2.1.Device) (b := place1.1.Device))) ?_
   rintro _ rfl
   refine Tops_yes rfl rfl (congrArg (fun b => some (Value.bool b)) hg34) (OpT_move rfl rfl rfl rfl) ?_
   rintro _ rfl
   refine Tops_yes rfl rfl (congrArg (fun b => some (Value.bool b)) hg34) (OpT_bin rfl rfl rfl rfl rfl (bin_eql_u64 (a := place2.1.Device - place1.1.Device) (b := (base % (1099511627776 : UInt64)) * (16 : UInt64)))) ?_
   rintro _ rfl
   refine Tops_step rfl (OpT_pickT rfl rfl rfl (congrArg (fun b => some (Value.bool b)) hg34) rfl) ?_
   refine Tops_step rfl (OpT_move rfl rfl rfl rfl) ?_
   obtain ⟨hg35, h⟩ := chk_e h
   refine Tops_yes rfl rfl (congrArg (fun b => some (Value.bool b)) hg35) (OpT_loadCA (vs := [vB place2.1.Packed, vI place2.1.Size, vU64 place2.1.Desc, vU64 place2.1.Driver, vU64 place2.1.Device]) rfl rfl rfl rfl tyF27 (i := 1) rfl rfl rfl) ?_
   rintro _ rfl
   obtain ⟨check4, hx19, h⟩ := ob_e h
   refine Tops_yes rfl rfl (congrArg (fun b => some (Value.bool b)) hg35) (OpT_call (w_layout_Check hx19) [] [] rfl rfl rfl rfl rfl callee13 rfl rfl rfl rfl) ?_
   rintro _ ⟨_, _, _, ⟨rfl, rfl, rfl⟩, rfl⟩
   refine Tops_yes rfl rfl (congrArg (fun b => some (Value.bool b)) hg35) (OpT_bin rfl rfl rfl rfl rfl (bin_eql_i (a := check4) (b := (0 : Int)))) ?_
   rintro _ rfl
   refine Tops_step rfl (OpT_pickT rfl rfl rfl (congrArg (fun b => some (Value.bool b)) hg35) rfl) ?_
   refine Tops_step rfl (OpT_assign rfl rfl rfl rfl) ?_
   refine Tops_nil (Tk_wkS (fr' := [(10, some (vB (check4 == (0 : Int))))]) (own' := []) (shr' := []) [10] [] [] rfl rfl rfl rfl ?_)
   obtain ⟨hg36, h⟩ := chk_e h
   exact Tk_retV rfl rfl (resA (vs := [.bool true]) rfl ⟨(congrArg (fun b => some (Value.bool b)) hg36), trivial⟩) [] [] rfl rfl rfl ⟨rfl, rfl, rfl⟩
end Go.Proofs.Ytbeendakebamhaa
