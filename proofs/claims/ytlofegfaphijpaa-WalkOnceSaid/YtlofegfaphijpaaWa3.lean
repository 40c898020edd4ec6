/- The functions do what the plain words say: each is walked once. No statement of the seat is proved here; no condition. -/
import Derived.Test.YtlofegfaphijpaaWa2
namespace Go.Proofs.Ytlofegfaphijpaa
attribute [local irreducible] sub
set_option maxRecDepth 100000 in
set_option maxHeartbeats 4000000 in
theorem w_desc_Read {b : List UInt8} {vb1 : Value} {r : (Desc × Int)} (h : desc_Read b = some r) :
  Ctr Try.prog 85 #[vb1] [] [Fact.sl u8S vb1 b]
   (fun rv own shr => rv = .tuple #[.agg #[vU64 r.1.Addr, vU32 r.1.Len, vU16 r.1.Flags, vU16 r.1.Next], vI r.2] ∧ own = [] ∧ shr = []) := by
 unfold desc_Read at h
 refine Ctr.mk (args := [vb1]) Try.func85 rfl rfl (fun R0 w0 B => ?_)
 refine Tk_seq (Tk_region (Tops_ex rfl (OpT_alloc rfl rfl rfl tyZ36) fun b1 => ?_))
 refine Tops_step rfl (OpT_assign rfl rfl rfl rfl) ?_
 refine Tops_nil (Tk_wkS (fr' := [(0, some (vb1)), (2, some (.pointer (some ⟨b1, 0, none⟩)))]) (own' := [some (cellsR b1 36 [vU64 (0 : UInt64), vU32 (0 : UInt32), vU16 (0 : UInt16), vU16 (0 : UInt16)])]) (shr' := [Fact.sl u8S vb1 b]) [0, 2] [0] [0] rfl rfl rfl rfl ?_)
 refine Tk_seq (Tk_seq (Tk_region (Tops_step rfl (OpT_move rfl rfl rfl rfl) ?_)))
 refine Tops_step rfl (OpT_lenS rfl rfl rfl rfl Try.underlying39 (i := 0) rfl) ?_
 refine Tops_step rfl (OpT_bin rfl rfl rfl rfl rfl (bin_neq_i (a := len b) (b := (16 : Int)))) ?_
 refine Tops_nil (Tk_wkS (fr' := [(0, some (vb1)), (2, some (.pointer (some ⟨b1, 0, none⟩))), (7, some (vB ((len b) != (16 : Int))))]) (own' := [some (cellsR b1 36 [vU64 (0 : UInt64), vU32 (0 : UInt32), vU16 (0 : UInt16), vU16 (0 : UInt16)])]) (shr' := [Fact.sl u8S vb1 b]) [0, 2, 7] [0] [0] rfl rfl rfl rfl ?_)
 rcases Bool.eq_false_or_eq_true ((len b) != (16 : Int)) with hg1 | hg1
 ·replace h := br_t hg1 h
  refine Tk_condT (congrArg (fun b => some (Value.bool b)) hg1) ?_
  refine Tk_seq (Tk_region (Tops_step rfl (OpT_build (v := .agg #[vU64 (0 : UInt64), vU32 (0 : UInt32), vU16 (0 : UInt16), vU16 (0 : UInt16)]) rfl rfl rfl rfl (bldV (by kernel_rfl))) ?_))
  refine Tops_step rfl (OpT_storeC (cs' := [vU64 (0 : UInt64), vU32 (0 : UInt32), vU16 (0 : UInt16), vU16 (0 : UInt16)]) rfl rfl rfl rfl tyF36 (i := 0) rfl rfl rfl (one_of rfl) rfl) ?_
  refine Tops_step rfl (OpT_assign rfl rfl rfl rfl) ?_
  refine Tops_nil (Tk_wkS (fr' := [(2, some (.pointer (some ⟨b1, 0, none⟩))), (3, some (vI (4 : Int)))]) (own' := [some (cellsR b1 36 [vU64 (0 : UInt64), vU32 (0 : UInt32), vU16 (0 : UInt16), vU16 (0 : UInt16)])]) (shr' := []) [2, 3] [0] [] rfl rfl rfl rfl ?_)
  obtain rfl := Option.some.inj h
  exact Tk_retV rfl rfl (resA (vs := [.agg #[vU64 (0 : UInt64), vU32 (0 : UInt32), vU16 (0 : UInt16), vU16 (0 : UInt16)], vI (4 : Int)]) rfl ⟨⟨_, 0, _, _, _, rfl, rfl, .inl ⟨tyF36, rfl, rfl⟩⟩, rfl, trivial⟩) [] [] rfl rfl rfl ⟨rfl, rfl, rfl⟩
 ·replace h := br_f hg1 h
  refine Tk_condF (congrArg (fun b => some (Value.bool b)) hg1) ?_
  refine Tk_skip (Tk_seq (Tk_region (Tops_step rfl (OpT_move rfl rfl rfl rfl) ?_)))
  obtain ⟨hc1, h⟩ := chk_e h
  refine Tops_ex rfl (OpT_toArr rfl rfl rfl rfl arrF180 (i := 0) rfl hc1 rfl) fun p1 => ?_
  refine Tops_step rfl (OpT_loadArrD u8S rfl (f := vU8) (fun _ => rfl) rfl rfl rfl rfl tyF180 (i := 1) rfl rfl) ?_
  refine Tops_ex rfl (OpT_alloc rfl rfl rfl tyZ180) fun b2 => ?_
  obtain ⟨hc2, h⟩ := chk_e h
  refine Tops_step rfl (OpT_storeLAA (f := vU8) (xs := b.take 16) rfl rfl rfl rfl tyF180 (i := 1) rfl hc2 rfl (fun _ => rfl)) ?_
  refine Tops_nil (Tk_wkS (fr' := [(2, some (.pointer (some ⟨b1, 0, none⟩))), (4, some (.pointer (some ⟨b2, 0, none⟩)))]) (own' := [some (cellsR b1 36 [vU64 (0 : UInt64), vU32 (0 : UInt32), vU16 (0 : UInt16), vU16 (0 : UInt16)]), some (cellsR b2 180 ((b.take 16).map vU8))]) (shr' := []) [2, 4] [0, 1] [] rfl rfl rfl rfl ?_)
  refine Tk_seq (Tk_region ?_)
  obtain ⟨get1, hx1, h⟩ := ob_e h
  refine Tops_exP rfl (OpT_callP [0, 2] (w_desc_raw_get hx1) [1] [] rfl rfl rfl rfl rfl callee113 rfl rfl rfl rfl rfl) ?_
  rintro _ ⟨_, _, _, ⟨rfl, rfl, rfl⟩, rfl⟩
  obtain ⟨get2, hx2, h⟩ := ob_e h
  refine Tops_exP rfl (OpT_callP [0, 2] (w_desc_raw_get hx2) [1] [] rfl rfl rfl rfl rfl callee113 rfl rfl rfl rfl rfl) ?_
  rintro _ ⟨_, _, _, ⟨rfl, rfl, rfl⟩, rfl⟩
  refine Tops_step rfl (OpT_cnv rfl rfl rfl rfl (cnv_u64_u32 (n := get2) Try.underlying27 Try.underlying33)) ?_
  obtain ⟨get3, hx3, h⟩ := ob_e h
  refine Tops_exP rfl (OpT_callP [0, 2] (w_desc_raw_get hx3) [1] [] rfl rfl rfl rfl rfl callee113 rfl rfl rfl rfl rfl) ?_
  rintro _ ⟨_, _, _, ⟨rfl, rfl, rfl⟩, rfl⟩
  refine Tops_step rfl (OpT_cnv rfl rfl rfl rfl (cnv_u64_u16 (n := get3) Try.underlying27 Try.underlying34)) ?_
  obtain ⟨get4, hx4, h⟩ := ob_e h
  refine Tops_exP rfl (OpT_callP [0, 2] (w_desc_raw_get hx4) [1] [] rfl rfl rfl rfl rfl callee113 rfl rfl rfl rfl rfl) ?_
  rintro _ ⟨_, _, _, ⟨rfl, rfl, rfl⟩, rfl⟩
  refine Tops_step rfl (OpT_cnv rfl rfl rfl rfl (cnv_u64_u16 (n := get4) Try.underlying27 Try.underlying34)) ?_
  refine Tops_step rfl (OpT_build (v := .agg #[vU64 get1, vU32 get2.toUInt32, vU16 get3.toUInt16, vU16 get4.toUInt16]) rfl rfl rfl rfl (bldV (by kernel_rfl))) ?_
  refine Tops_step rfl (OpT_storeC (cs' := [vU64 get1, vU32 get2.toUInt32, vU16 get3.toUInt16, vU16 get4.toUInt16]) rfl rfl rfl rfl tyF36 (i := 0) rfl rfl rfl (one_of rfl) rfl) ?_
  refine Tops_step rfl (OpT_assign rfl rfl rfl rfl) ?_
  refine Tops_nil (Tk_wkS (fr' := [(2, some (.pointer (some ⟨b1, 0, none⟩))), (3, some (vI (0 : Int)))]) (own' := [some (cellsR b1 36 [vU64 get1, vU32 get2.toUInt32, vU16 get3.toUInt16, vU16 get4.toUInt16])]) (shr' := []) [2, 3] [0] [] rfl rfl rfl rfl ?_)
  obtain rfl := Option.some.inj h
  exact Tk_retV rfl rfl (resA (vs := [.agg #[vU64 get1, vU32 get2.toUInt32, vU16 get3.toUInt16, vU16 get4.toUInt16], vI (0 : Int)]) rfl ⟨⟨_, 0, _, _, _, rfl, rfl, .inl ⟨tyF36, rfl, rfl⟩⟩, rfl, trivial⟩) [] [] rfl rfl rfl ⟨rfl, rfl, rfl⟩

set_option maxRecDepth 100000 in
set_option maxHeartbeats 4000000 in
theorem w_gmem_Mem_Has {m : gmem_Mem} {atp1 : UInt64} {np2 : UInt64} {b_m : Nat} {vm1 : Value} {vm2 : Value} {vsm1 : List Value} {r : Bool} (h : gmem_Mem_Has m atp1 np2 = some r) :
  Ctr Try.prog 26 #[.pointer (some ⟨b_m, 0, none⟩), vU64 atp1, vU64 np2] [(cellsR b_m 113 [vm1, vm2]), (rowsX u8S true vm2 vsm1 m.b none)] [Fact.sl RegionS vm1 m.l]
   (fun rv own shr => rv = vB r ∧ own = [(cellsR b_m 113 [vm1, vm2]), (rowsX u8S true vm2 vsm1 m.b none)] ∧ shr = []) := by
 unfold gmem_Mem_Has at h
 refine Ctr.mk (args := [.pointer (some ⟨b_m, 0, none⟩), vU64 atp1, vU64 np2]) Try.func26 rfl rfl (fun R0 w0 B => ?_)
 refine Tk_seq (Tk_region (Tops_step rfl (OpT_assign rfl rfl rfl rfl) ?_))
 refine Tops_nil (Tk_wkS (fr' := [(0, some (.pointer (some ⟨b_m, 0, none⟩))), (1, some (vU64 atp1)), (2, some (vU64 np2))]) (own' := [some (cellsR b_m 113 [vm1, vm2]), some (rowsX u8S true vm2 vsm1 m.b none)]) (shr' := [Fact.sl RegionS vm1 m.l]) [0, 1, 2] [0, 1] [0] rfl rfl rfl rfl ?_)
 refine Tk_seq (Tk_region (Tops_step rfl (OpT_move rfl rfl rfl rfl) ?_))
 obtain ⟨made1, hx1, h⟩ := ob_e h
 refine Tops_exP rfl (OpT_callP [2, 3] (w_gmem_Mem_made hx1) [0, 1] [0] rfl rfl rfl rfl rfl callee37 rfl rfl rfl rfl rfl) ?_
 rintro _ ⟨_, _, _, ⟨rfl, rfl, rfl⟩, rfl⟩
 refine Tops_step rfl (OpT_move rfl rfl rfl rfl) ?_
 refine Tops_yes rfl rfl (congrArg (fun b => some (Value.bool b)) (Option.some.inj (show some true = some made1 from hx1)).symm) (OpT_move rfl rfl rfl rfl) ?_
 rintro _ rfl
 refine Tops_yes rfl rfl (congrArg (fun b => some (Value.bool b)) (Option.some.inj (show some true = some made1 from hx1)).symm) (OpT_move rfl rfl rfl rfl) ?_
 rintro _ rfl
 refine Tops_yes rfl rfl (congrArg (fun b => some (Value.bool b)) (Option.some.inj (show some true = some made1 from hx1)).symm) (OpT_move rfl rfl rfl rfl) ?_
 rintro _ rfl
 obtain ⟨bytes1, hx2, h⟩ := ob_e h
 refine Tops_yes rfl rfl (congrArg (fun b => some (Value.bool b)) (Option.some.inj (show some true = some made1 from hx1)).symm) (OpT_callP [2, 3] (w_gmem_Mem_bytes hx2) [0, 1] [0] rfl rfl rfl rfl rfl callee38 rfl rfl rfl rfl rfl) ?_
 rintro _ ⟨_, _, _, ⟨rfl, rfl, rfl⟩, rfl⟩
 rcases onO_cases h with ⟨ho1, h⟩ | ⟨w1, ho1, h⟩
 ·rw [show (winV 1 vsm1 bytes1 : Value) = .slice none 0 0 from by rw [ho1]; rfl]
  refine Tops_yes rfl rfl (congrArg (fun b => some (Value.bool b)) (Option.some.inj (show some true = some made1 from hx1)).symm) (OpT_eqNilN rfl rfl rfl (.inr rfl) rfl rfl Try.underlying39) ?_
  rintro _ rfl
  refine Tops_step rfl (OpT_pickT rfl rfl rfl (congrArg (fun b => some (Value.bool b)) (Option.some.inj (show some true = some made1 from hx1)).symm) rfl) ?_
  refine Tops_step rfl (OpT_assign rfl rfl rfl rfl) ?_
  refine Tops_nil (Tk_wkS (fr' := [(6, some (vB false))]) (own' := [some (cellsR b_m 113 [vm1, vm2]), some (rowsX u8S true vm2 vsm1 m.b none)]) (shr' := [Fact.sl RegionS vm1 m.l]) [6] [0, 1] [0] rfl rfl rfl rfl ?_)
  obtain rfl := Option.some.inj h
  exact Tk_retV rfl rfl (resA (vs := [vB false]) rfl ⟨rfl, trivial⟩) [0, 1] [] rfl rfl rfl ⟨rfl, rfl, rfl⟩
 ·rw [show (winV 1 vsm1 bytes1 : Value) = subV (vsAt vsm1 (Int.toNat w1.1)) 1 (Int.toNat w1.2.1) (Int.toNat w1.2.2) from by rw [ho1]; rfl]
  obtain ⟨row1, hx3, h⟩ := ob_e h
  refine Tops_vs (vs_focus (i := 1) (j := w1.1) rfl hx3) ?_
  obtain ⟨hc1, h⟩ := chk_e h
  obtain ⟨hc2, h⟩ := chk_e h
  refine Tops_yes rfl rfl (congrArg (fun b => some (Value.bool b)) (Option.some.inj (show some true = some made1 from hx1)).symm) (OpT_eqSub (S := u8S) (l := w1.2.1) (m := w1.2.2) rfl rfl rfl (.inr rfl) rfl rfl Try.underlying39 (i := 2) rfl hc1 hc2) ?_
  rintro _ rfl
  refine Tops_step rfl (OpT_pickT rfl rfl rfl (congrArg (fun b => some (Value.bool b)) (Option.some.inj (show some true = some made1 from hx1)).symm) rfl) ?_
  refine Tops_step rfl (OpT_assign rfl rfl rfl rfl) ?_
  refine Tops_nil (Tk_wkS (fr' := [(6, some (vB true))]) (own' := [some (cellsR b_m 113 [vm1, vm2]), some (rowsX u8S true vm2 vsm1 m.b (some (Int.toNat w1.1, vsAt vsm1 (Int.toNat w1.1)))), some (rowS u8S (vsAt vsm1 (Int.toNat w1.1)) row1)]) (shr' := [Fact.sl RegionS vm1 m.l]) [6] [0, 1, 2] [0] rfl rfl rfl rfl ?_)
  refine Tk_vs (vs_unfocus0 (i := 1) (q := 2) rfl rfl rfl hx3) ?_
  obtain rfl := Option.some.inj h
  exact Tk_retV rfl rfl (resA (vs := [vB true]) rfl ⟨rfl, trivial⟩) [0, 1] [] rfl rfl rfl ⟨rfl, rfl, rfl⟩

set_option maxRecDepth 100000 in
set_option maxHeartbeats 4000000 in
theorem w_walk_entries {m : gmem_Mem} {atp1 : UInt64} {np2 : UInt32} {b_m : Nat} {vm1 : Value} {vm2 : Value} {vsm1 : List Value} {r : (Int × Int)} (h : walk_entries m atp1 np2 = some r) :
  Ctr Try.prog 86 #[.pointer (some ⟨b_m, 0, none⟩), vU64 atp1, vU32 np2] [(cellsR b_m 113 [vm1, vm2]), (rowsX u8S true vm2 vsm1 m.b none)] [Fact.sl RegionS vm1 m.l]
   (fun rv own shr => rv = .tuple #[vI r.1, vI r.2] ∧ own = [(cellsR b_m 113 [vm1, vm2]), (rowsX u8S true vm2 vsm1 m.b none)] ∧ shr = []) := by
 unfold walk_entries at h
 refine Ctr.mk (args := [.pointer (some ⟨b_m, 0, none⟩), vU64 atp1, vU32 np2]) Try.func86 rfl rfl (fun R0 w0 B => ?_)
 refine Tk_seq (Tk_region (Tops_step rfl (OpT_assign rfl rfl rfl rfl) ?_))
 refine Tops_step rfl (OpT_assign rfl rfl rfl rfl) ?_
 refine Tops_nil (Tk_wkS (fr' := [(0, some (.pointer (some ⟨b_m, 0, none⟩))), (1, some (vU64 atp1)), (2, some (vU32 np2))]) (own' := [some (cellsR b_m 113 [vm1, vm2]), some (rowsX u8S true vm2 vsm1 m.b none)]) (shr' := [Fact.sl RegionS vm1 m.l]) [0, 1, 2] [0, 1] [0] rfl rfl rfl rfl ?_)
 refine Tk_seq (Tk_seq (Tk_region (Tops_step rfl (OpT_move rfl rfl rfl rfl) ?_)))
 refine Tops_step rfl (OpT_bin rfl rfl rfl rfl rfl (bin_eql_u32 (a := np2) (b := (0 : UInt32)))) ?_
 refine Tops_step rfl (OpT_move rfl rfl rfl rfl) ?_
 rcases Bool.eq_false_or_eq_true (np2 == (0 : UInt32)) with hg1 | hg1
 ·replace h := br_t hg1 h
  refine Tops_no rfl rfl (congrArg (fun b => some (Value.bool b)) hg1) rfl rfl ?_
  refine Tops_no rfl rfl (congrArg (fun b => some (Value.bool b)) hg1) rfl rfl ?_
  refine Tops_no rfl rfl (congrArg (fun b => some (Value.bool b)) hg1) rfl rfl ?_
  refine Tops_step rfl (OpT_pickT rfl rfl rfl (congrArg (fun b => some (Value.bool b)) hg1) rfl) ?_
  refine Tops_step rfl (OpT_move rfl rfl rfl rfl) ?_
  refine Tops_no rfl rfl rfl rfl rfl ?_
  refine Tops_no rfl rfl rfl rfl rfl ?_
  refine Tops_no rfl rfl rfl rfl rfl ?_
  refine Tops_step rfl (OpT_pickT rfl rfl rfl rfl rfl) ?_
  refine Tops_nil (Tk_wkS (fr' := [(0, some (.pointer (some ⟨b_m, 0, none⟩))), (1, some (vU64 atp1)), (2, some (vU32 np2)), (19, some (vB true))]) (own' := [some (cellsR b_m 113 [vm1, vm2]), some (rowsX u8S true vm2 vsm1 m.b none)]) (shr' := [Fact.sl RegionS vm1 m.l]) [0, 1, 2, 19] [0, 1] [0] rfl rfl rfl rfl ?_)
  refine Tk_condT rfl ?_
  refine Tk_seq (Tk_region (Tops_step rfl (OpT_assign rfl rfl rfl rfl) ?_))
  refine Tops_step rfl (OpT_assign rfl rfl rfl rfl) ?_
  refine Tops_nil (Tk_wkS (fr' := [(6, some (vI (0 : Int))), (7, some (vI (4 : Int)))]) (own' := [some (cellsR b_m 113 [vm1, vm2]), some (rowsX u8S true vm2 vsm1 m.b none)]) (shr' := [Fact.sl RegionS vm1 m.l]) [6, 7] [0, 1] [0] rfl rfl rfl rfl ?_)
  obtain rfl := Option.some.inj h
  exact Tk_retV rfl rfl (resA (vs := [vI (0 : Int), vI (4 : Int)]) rfl ⟨rfl, rfl, trivial⟩) [0, 1] [] rfl rfl rfl ⟨rfl, rfl, rfl⟩
 ·replace h := br_f hg1 h
  refine Tops_yes rfl rfl (congrArg (fun b => some (Value.bool b)) hg1) (OpT_move rfl rfl rfl rfl) ?_
  rintro _ rfl
  refine Tops_yes rfl rfl (congrArg (fun b => some (Value.bool b)) hg1) (OpT_bin rfl rfl rfl rfl rfl (bin_rem_u32 (a := np2) (b := (16 : UInt32)) rfl)) ?_
  rintro _ rfl
  refine Tops_yes rfl rfl (congrArg (fun b => some (Value.bool b)) hg1) (OpT_bin rfl rfl rfl rfl rfl (bin_neq_u32 (a := np2 % (16 : UInt32)) (b := (0 : UInt32)))) ?_
  rintro _ rfl
  refine Tops_step rfl (OpT_pickF rfl rfl rfl (congrArg (fun b => some (Value.bool b)) hg1) rfl) ?_
  refine Tops_step rfl (OpT_move rfl rfl rfl rfl) ?_
  rcases Bool.eq_false_or_eq_true ((np2 % (16 : UInt32)) != (0 : UInt32)) with hg2 | hg2
  ·replace h := br_t hg2 h
   refine Tops_no rfl rfl (congrArg (fun b => some (Value.bool b)) hg2) rfl rfl ?_
   refine Tops_no rfl rfl (congrArg (fun b => some (Value.bool b)) hg2) rfl rfl ?_
   refine Tops_no rfl rfl (congrArg (fun b => some (Value.bool b)) hg2) rfl rfl ?_
   refine Tops_step rfl (OpT_pickT rfl rfl rfl (congrArg (fun b => some (Value.bool b)) hg2) rfl) ?_
   refine Tops_nil (Tk_wkS (fr' := [(0, some (.pointer (some ⟨b_m, 0, none⟩))), (1, some (vU64 atp1)), (2, some (vU32 np2)), (19, some (vB true))]) (own' := [some (cellsR b_m 113 [vm1, vm2]), some (rowsX u8S true vm2 vsm1 m.b none)]) (shr' := [Fact.sl RegionS vm1 m.l]) [0, 1, 2, 19] [0, 1] [0] rfl rfl rfl rfl ?_)
   refine Tk_condT rfl ?_
   refine Tk_seq (Tk_region (Tops_step rfl (OpT_assign rfl rfl rfl rfl) ?_))
   refine Tops_step rfl (OpT_assign rfl rfl rfl rfl) ?_
   refine Tops_nil (Tk_wkS (fr' := [(6, some (vI (0 : Int))), (7, some (vI (4 : Int)))]) (own' := [some (cellsR b_m 113 [vm1, vm2]), some (rowsX u8S true vm2 vsm1 m.b none)]) (shr' := [Fact.sl RegionS vm1 m.l]) [6, 7] [0, 1] [0] rfl rfl rfl rfl ?_)
   obtain rfl := Option.some.inj h
   exact Tk_retV rfl rfl (resA (vs := [vI (0 : Int), vI (4 : Int)]) rfl ⟨rfl, rfl, trivial⟩) [0, 1] [] rfl rfl rfl ⟨rfl, rfl, rfl⟩
  ·replace h := br_f hg2 h
   refine Tops_yes rfl rfl (congrArg (fun b => some (Value.bool b)) hg2) (OpT_move rfl rfl rfl rfl) ?_
   rintro _ rfl
   refine Tops_yes rfl rfl (congrArg (fun b => some (Value.bool b)) hg2) (OpT_bin rfl rfl rfl rfl rfl (bin_quo_u32 (a := np2) (b := (16 : UInt32)) rfl)) ?_
   rintro _ rfl
   refine Tops_yes rfl rfl (congrArg (fun b => some (Value.bool b)) hg2) (OpT_bin rfl rfl rfl rfl rfl (bin_gtr_u32 (a := np2 / (16 : UInt32)) (b := (64 : UInt32)))) ?_
   rintro _ rfl
   refine Tops_step rfl (OpT_pickF rfl rfl rfl (congrArg (fun b => some (Value.bool b)) hg2) rfl) ?_
   refine Tops_nil (Tk_wkS (fr' := [(0, some (.pointer (some ⟨b_m, 0, none⟩))), (1, some (vU64 atp1)), (2, some (vU32 np2)), (19, some (vB (decide ((np2 / (16 : UInt32)) > (64 : UInt32)))))]) (own' := [some (cellsR b_m 113 [vm1, vm2]), some (rowsX u8S true vm2 vsm1 m.b none)]) (shr' := [Fact.sl RegionS vm1 m.l]) [0, 1, 2, 19] [0, 1] [0] rfl rfl rfl rfl ?_)
   rcases Bool.eq_false_or_eq_true (decide ((np2 / (16 : UInt32)) > (64 : UInt32))) with hg3 | hg3
   ·replace h := br_t hg3 h
    refine Tk_condT (congrArg (fun b => some (Value.bool b)) hg3) ?_
    refine Tk_seq (Tk_region (Tops_step rfl (OpT_assign rfl rfl rfl rfl) ?_))
    refine Tops_step rfl (OpT_assign rfl rfl rfl rfl) ?_
    refine Tops_nil (Tk_wkS (fr' := [(6, some (vI (0 : Int))), (7, some (vI (4 : Int)))]) (own' := [some (cellsR b_m 113 [vm1, vm2]), some (rowsX u8S true vm2 vsm1 m.b none)]) (shr' := [Fact.sl RegionS vm1 m.l]) [6, 7] [0, 1] [0] rfl rfl rfl rfl ?_)
    obtain rfl := Option.some.inj h
    exact Tk_retV rfl rfl (resA (vs := [vI (0 : Int), vI (4 : Int)]) rfl ⟨rfl, rfl, trivial⟩) [0, 1] [] rfl rfl rfl ⟨rfl, rfl, rfl⟩
   ·replace h := br_f hg3 h
    refine Tk_condF (congrArg (fun b => some (Value.bool b)) hg3) ?_
    refine Tk_skip (Tk_seq (Tk_seq (Tk_region (Tops_step rfl (OpT_move rfl rfl rfl rfl) ?_))))
    refine Tops_step rfl (OpT_move rfl rfl rfl rfl) ?_
    refine Tops_step rfl (OpT_move rfl rfl rfl rfl) ?_
    refine Tops_step rfl (OpT_cnv rfl rfl rfl rfl (cnv_u32_u64 (n := np2) Try.underlying33 Try.underlying27)) ?_
    obtain ⟨has1, hx1, h⟩ := ob_e h
    refine Tops_exP rfl (OpT_callP [2, 3] (w_gmem_Mem_Has hx1) [0, 1] [0] rfl rfl rfl rfl rfl callee26 rfl rfl rfl rfl rfl) ?_
    rintro _ ⟨_, _, _, ⟨rfl, rfl, rfl⟩, rfl⟩
    refine Tops_step rfl (OpT_not rfl rfl rfl rfl) ?_
    refine Tops_nil (Tk_wkS (fr' := [(2, some (vU32 np2)), (25, some (vB (!has1)))]) (own' := [some (cellsR b_m 113 [vm1, vm2]), some (rowsX u8S true vm2 vsm1 m.b none)]) (shr' := [Fact.sl RegionS vm1 m.l]) [2, 25] [0, 1] [0] rfl rfl rfl rfl ?_)
    rcases Bool.eq_false_or_eq_true ((!has1)) with hg4 | hg4
    ·replace h := br_t hg4 h
     refine Tk_condT (congrArg (fun b => some (Value.bool b)) hg4) ?_
     refine Tk_seq (Tk_region (Tops_step rfl (OpT_assign rfl rfl rfl rfl) ?_))
     refine Tops_step rfl (OpT_assign rfl rfl rfl rfl) ?_
     refine Tops_nil (Tk_wkS (fr' := [(6, some (vI (0 : Int))), (7, some (vI (5 : Int)))]) (own' := [some (cellsR b_m 113 [vm1, vm2]), some (rowsX u8S true vm2 vsm1 m.b none)]) (shr' := [Fact.sl RegionS vm1 m.l]) [6, 7] [0, 1] [0] rfl rfl rfl rfl ?_)
     obtain rfl := Option.some.inj h
     exact Tk_retV rfl rfl (resA (vs := [vI (0 : Int), vI (5 : Int)]) rfl ⟨rfl, rfl, trivial⟩) [0, 1] [] rfl rfl rfl ⟨rfl, rfl, rfl⟩
    ·replace h := br_f hg4 h
     refine Tk_condF (congrArg (fun b => some (Value.bool b)) hg4) ?_
     refine Tk_skip (Tk_seq (Tk_region (Tops_step rfl (OpT_move rfl rfl rfl rfl) ?_)))
     refine Tops_step rfl (OpT_bin rfl rfl rfl rfl rfl (bin_quo_u32 (a := np2) (b := (16 : UInt32)) rfl)) ?_
     refine Tops_step rfl (OpT_cnv rfl rfl rfl rfl (cnv_u32_i (n := np2 / (16 : UInt32)) Try.underlying33 Try.underlying3)) ?_
     refine Tops_step rfl (OpT_assign rfl rfl rfl rfl) ?_
     refine Tops_step rfl (OpT_assign rfl rfl rfl rfl) ?_
     refine Tops_nil (Tk_wkS (fr' := [(6, some (vI (i32 (np2 / (16 : UInt32))))), (7, some (vI (0 : Int)))]) (own' := [some (cellsR b_m 113 [vm1, vm2]), some (rowsX u8S true vm2 vsm1 m.b none)]) (shr' := [Fact.sl RegionS vm1 m.l]) [6, 7] [0, 1] [0] rfl rfl rfl rfl ?_)
     obtain rfl := Option.some.inj h
     exact Tk_retV rfl rfl (resA (vs := [vI (i32 (np2 / (16 : UInt32))), vI (0 : Int)]) rfl ⟨rfl, rfl, trivial⟩) [0, 1] [] rfl rfl rfl ⟨rfl, rfl, rfl⟩

set_option maxRecDepth 100000 in
set_option maxHeartbeats 4000000 in
theorem w_walk_made {atp0 : UInt64} {np1 : UInt32} {flags : UInt16} {r : Seg} (h : walk_made atp0 np1 flags = some r) :
  Ctr Try.prog 87 #[vU64 atp0, vU32 np1, vU16 flags] [] []
   (fun rv own shr => rv = .agg #[vU64 r.At, vU32 r.Len, vB r.Write] ∧ own = [] ∧ shr = []) := by
 unfold walk_made at h
 refine Ctr.mk (args := [vU64 atp0, vU32 np1, vU16 flags]) Try.func87 rfl rfl (fun R0 w0 B => ?_)
 refine Tk_seq (Tk_region (Tops_ex rfl (OpT_alloc rfl rfl rfl tyZ46) fun b1 => ?_))
 refine Tops_nil (Tk_seq (Tk_region (Tops_step rfl (OpT_move rfl rfl rfl rfl) ?_)))
 refine Tops_step rfl (OpT_move rfl rfl rfl rfl) ?_
 refine Tops_step rfl (OpT_move rfl rfl rfl rfl) ?_
 refine Tops_step rfl (OpT_bin rfl rfl rfl rfl rfl (bin_and_u16 (a := flags) (b := (2 : UInt16)))) ?_
 refine Tops_step rfl (OpT_bin rfl rfl rfl rfl rfl (bin_neq_u16 (a := flags &&& (2 : UInt16)) (b := (0 : UInt16)))) ?_
 refine Tops_step rfl (OpT_build (v := .agg #[vU64 atp0, vU32 np1, vB ((flags &&& (2 : UInt16)) != (0 : UInt16))]) rfl rfl rfl rfl (bldV (by kernel_rfl))) ?_
 refine Tops_step rfl (OpT_storeC (cs' := [vU64 atp0, vU32 np1, vB ((flags &&& (2 : UInt16)) != (0 : UInt16))]) rfl rfl rfl rfl tyF46 (i := 0) rfl rfl rfl (one_of rfl) rfl) ?_
 refine Tops_nil (Tk_wkS (fr' := [(6, some (.pointer (some ⟨b1, 0, none⟩)))]) (own' := [some (cellsR b1 46 [vU64 atp0, vU32 np1, vB ((flags &&& (2 : UInt16)) != (0 : UInt16))])]) (shr' := []) [6] [0] [] rfl rfl rfl rfl ?_)
 obtain rfl := Option.some.inj h
 exact Tk_retV rfl rfl (resA (vs := [.agg #[vU64 atp0, vU32 np1, vB ((flags &&& (2 : UInt16)) != (0 : UInt16))]]) rfl ⟨⟨_, 0, _, _, _, rfl, rfl, .inl ⟨tyF46, rfl, rfl⟩⟩, trivial⟩) [] [] rfl rfl rfl ⟨rfl, rfl, rfl⟩

set_option maxRecDepth 100000 in
set_option maxHeartbeats 4000000 in
theorem w_walk_split_1ct3 {atp0 : UInt64} {size : Int} {kp2 : Int} {arg4 : Int} {arg5 : gmem_Mem} {arg6 : Int} {arg7 : Bool} {arg9 : List Seg} {b_arg4 : Nat} {b_arg5 : Nat} {varg51 : Value} {varg52 : Value} {vsarg51 : List Value} {bb_arg5 : Nat} {b_arg6 : Nat} {b_arg7 : Nat} {b_arg8 : Nat} {b_arg9 : Nat} {varg91 : Value} {r : (Int × Int × Bool × (List Seg))} (h : walk_split_1ct3 atp0 size kp2 arg4 arg5 arg6 arg7 arg9 = some r) :
  Ctr Try.prog 84 #[vU64 atp0, vI size, vI kp2, vB true, .pointer (some ⟨b_arg4, 0, none⟩), .pointer (some ⟨bb_arg5, 0, none⟩), .pointer (some ⟨b_arg6, 0, none⟩), .pointer (some ⟨b_arg7, 0, none⟩), .pointer (some ⟨b_arg8, 0, none⟩), .pointer (some ⟨b_arg9, 0, none⟩)] [(cellsR b_arg4 37 [vI arg4]), (cellsR bb_arg5 25 [.pointer (some ⟨b_arg5, 0, none⟩)]), (cellsR b_arg5 113 [varg51, varg52]), (rowsX u8S true varg52 vsarg51 arg5.b none), (cellsR b_arg6 3 [vI arg6]), (cellsR b_arg7 4 [vB arg7]), (cellsR b_arg8 156 [.func (.func 84) #[] #[.pointer (some ⟨b_arg4, 0, none⟩), .pointer (some ⟨bb_arg5, 0, none⟩), .pointer (some ⟨b_arg6, 0, none⟩), .pointer (some ⟨b_arg7, 0, none⟩), .pointer (some ⟨b_arg8, 0, none⟩), .pointer (some ⟨b_arg9, 0, none⟩)]]), (cellsR b_arg9 41 [varg91]), (rowS SegS varg91 arg9)] [Fact.sl RegionS varg51 arg5.l]
   (fun rv own shr => ∃ (w1 : Value), rv = .tuple #[] ∧ own = [(cellsR b_arg4 37 [vI r.1]), (cellsR bb_arg5 25 [.pointer (some ⟨b_arg5, 0, none⟩)]), (cellsR b_arg5 113 [varg51, varg52]), (rowsX u8S true varg52 vsarg51 arg5.b none), (cellsR b_arg6 3 [vI r.2.1]), (cellsR b_arg7 4 [vB r.2.2.1]), (cellsR b_arg8 156 [.func (.func 84) #[] #[.pointer (some ⟨b_arg4, 0, none⟩), .pointer (some ⟨bb_arg5, 0, none⟩), .pointer (some ⟨b_arg6, 0, none⟩), .pointer (some ⟨b_arg7, 0, none⟩), .pointer (some ⟨b_arg8, 0, none⟩), .pointer (some ⟨b_arg9, 0, none⟩)]]), (cellsR b_arg9 41 [w1]), (rowS SegS w1 r.2.2.2)] ∧ shr = []) := by
 unfold walk_split_1ct3 at h
 refine Ctr.mk (args := [vU64 atp0, vI size, vI kp2, vB true, .pointer (some ⟨b_arg4, 0, none⟩), .pointer (some ⟨bb_arg5, 0, none⟩), .pointer (some ⟨b_arg6, 0, none⟩), .pointer (some ⟨b_arg7, 0, none⟩), .pointer (some ⟨b_arg8, 0, none⟩), .pointer (some ⟨b_arg9, 0, none⟩)]) Try.func84 rfl rfl (fun R0 w0 B => ?_)
 refine Tk_seq (Tk_region (Tops_ex rfl (OpT_makeMap .i64 (fun x : Int => x) vB rfl rfl rfl) fun b1 => ?_))
 refine Tops_step rfl (OpT_assign rfl rfl rfl rfl) ?_
 refine Tops_nil (Tk_wkS (fr' := [(0, some (vU64 atp0)), (1, some (vI size)), (2, some (vI kp2)), (3, some (vB true)), (4, some (.pointer (some ⟨b_arg4, 0, none⟩))), (5, some (.pointer (some ⟨bb_arg5, 0, none⟩))), (6, some (.pointer (some ⟨b_arg6, 0, none⟩))), (7, some (.pointer (some ⟨b_arg7, 0, none⟩))), (8, some (.pointer (some ⟨b_arg8, 0, none⟩))), (9, some (.pointer (some ⟨b_arg9, 0, none⟩))), (14, some (.map (some b1)))]) (own' := [some (cellsR b_arg4 37 [vI arg4]), some (cellsR bb_arg5 25 [.pointer (some ⟨b_arg5, 0, none⟩)]), some (cellsR b_arg5 113 [varg51, varg52]), some (rowsX u8S true varg52 vsarg51 arg5.b none), some (cellsR b_arg6 3 [vI arg6]), some (cellsR b_arg7 4 [vB arg7]), some (cellsR b_arg8 156 [.func (.func 84) #[] #[.pointer (some ⟨b_arg4, 0, none⟩), .pointer (some ⟨bb_arg5, 0, none⟩), .pointer (some ⟨b_arg6, 0, none⟩), .pointer (some ⟨b_arg7, 0, none⟩), .pointer (some ⟨b_arg8, 0, none⟩), .pointer (some ⟨b_arg9, 0, none⟩)]]), some (cellsR b_arg9 41 [varg91]), some (rowS SegS varg91 arg9), some (mapR b1 .i64 (fun x : Int => x) vB ([] : List (Int × Bool)))]) (shr' := [Fact.sl RegionS varg51 arg5.l]) [0, 1, 2, 3, 4, 5, 6, 7, 8, 9, 14] [0, 1, 2, 3, 4, 5, 6, 7, 8, 9] [0] rfl rfl rfl rfl ?_)
 refine Tk_block (Tk_loopS (σ := Int × Int × Int × Bool × (List Seg) × (List (Int × Bool)) × Value) [0, 1, 2, 3, 4, 5, 6, 7, 8, 9, 14] [0, 1, 2, 3, 4, 5, 6, 7, 8, 9] [0] (fun s => ⟨[(0, some (vU64 atp0)), (1, some (vI size)), (2, some (vI s.1)), (3, some (vB true)), (4, some (.pointer (some ⟨b_arg4, 0, none⟩))), (5, some (.pointer (some ⟨bb_arg5, 0, none⟩))), (6, some (.pointer (some ⟨b_arg6, 0, none⟩))), (7, some (.pointer (some ⟨b_arg7, 0, none⟩))), (8, some (.pointer (some ⟨b_arg8, 0, none⟩))), (9, some (.pointer (some ⟨b_arg9, 0, none⟩))), (14, some (.map (some b1)))], [some (cellsR b_arg4 37 [vI s.2.1]), some (cellsR bb_arg5 25 [.pointer (some ⟨b_arg5, 0, none⟩)]), some (cellsR b_arg5 113 [varg51, varg52]), some (rowsX u8S true varg52 vsarg51 arg5.b none), some (cellsR b_arg6 3 [vI s.2.2.1]), some (cellsR b_arg7 4 [vB s.2.2.2.1]), some (cellsR b_arg8 156 [.func (.func 84) #[] #[.pointer (some ⟨b_arg4, 0, none⟩), .pointer (some ⟨bb_arg5, 0, none⟩), .pointer (some ⟨b_arg6, 0, none⟩), .pointer (some ⟨b_arg7, 0, none⟩), .pointer (some ⟨b_arg8, 0, none⟩), .pointer (some ⟨b_arg9, 0, none⟩)]]), some (cellsR b_arg9 41 [s.2.2.2.2.2.2]), some (rowS SegS s.2.2.2.2.2.2 s.2.2.2.2.1), some (mapR b1 .i64 (fun x : Int => x) vB s.2.2.2.2.2.1)], [Fact.sl RegionS varg51 arg5.l]⟩) (fun nf1 s => walk_split_1ct3L1 atp0 size arg5 nf1 s.1 s.2.1 s.2.2.1 s.2.2.2.1 s.2.2.2.2.1 s.2.2.2.2.2.1 = some r) fuel (kp2, arg4, arg6, arg7, arg9, ([] : List (Int × Bool)), varg91) h rfl rfl rfl rfl rfl (fun s h => by cases h) ?_)
 rintro nf1 ⟨k1, m1, m2, m3, l1, map1, v1⟩ h
 replace h : walk_split_1ct3L1B atp0 size arg5 (walk_split_1ct3L1 atp0 size arg5 nf1) k1 m1 m2 m3 l1 map1 = some r := h
 unfold walk_split_1ct3L1B at h
 refine Tk_block (Tk_seq (Tk_seq (Tk_region (Tops_step rfl (OpT_move rfl rfl rfl rfl) ?_))))
 refine Tops_step rfl (OpT_move rfl rfl rfl rfl) ?_
 refine Tops_step rfl (OpT_lookup keyI (V := vB) (kx := k1) (z := false) rfl rfl rfl rfl rfl Try.underlying157 Try.underlying3 tyZ4 (i := 9) rfl) ?_
 refine Tops_step rfl (OpT_move rfl rfl rfl rfl) ?_
 rcases Bool.eq_false_or_eq_true (mget false k1 map1) with hg1 | hg1
 ·replace h := br_t hg1 h
  refine Tops_no rfl rfl (congrArg (fun b => some (Value.bool b)) hg1) rfl rfl ?_
  refine Tops_no rfl rfl (congrArg (fun b => some (Value.bool b)) hg1) rfl rfl ?_
  refine Tops_step rfl (OpT_pickT rfl rfl rfl (congrArg (fun b => some (Value.bool b)) hg1) rfl) ?_
  refine Tops_step rfl (OpT_move rfl rfl rfl rfl) ?_
  refine Tops_no rfl rfl rfl rfl rfl ?_
  refine Tops_no rfl rfl rfl rfl rfl ?_
  refine Tops_no rfl rfl rfl rfl rfl ?_
  refine Tops_step rfl (OpT_pickT rfl rfl rfl rfl rfl) ?_
  refine Tops_nil (Tk_wkS (fr' := [(0, some (vU64 atp0)), (1, some (vI size)), (2, some (vI k1)), (3, some (vB true)), (4, some (.pointer (some ⟨b_arg4, 0, none⟩))), (5, some (.pointer (some ⟨bb_arg5, 0, none⟩))), (6, some (.pointer (some ⟨b_arg6, 0, none⟩))), (7, some (.pointer (some ⟨b_arg7, 0, none⟩))), (8, some (.pointer (some ⟨b_arg8, 0, none⟩))), (9, some (.pointer (some ⟨b_arg9, 0, none⟩))), (14, some (.map (some b1))), (33, some (vB true))]) (own' := [some (cellsR b_arg4 37 [vI m1]), some (cellsR bb_arg5 25 [.pointer (some ⟨b_arg5, 0, none⟩)]), some (cellsR b_arg5 113 [varg51, varg52]), some (rowsX u8S true varg52 vsarg51 arg5.b none), some (cellsR b_arg6 3 [vI m2]), some (cellsR b_arg7 4 [vB m3]), some (cellsR b_arg8 156 [.func (.func 84) #[] #[.pointer (some ⟨b_arg4, 0, none⟩), .pointer (some ⟨bb_arg5, 0, none⟩), .pointer (some ⟨b_arg6, 0, none⟩), .pointer (some ⟨b_arg7, 0, none⟩), .pointer (some ⟨b_arg8, 0, none⟩), .pointer (some ⟨b_arg9, 0, none⟩)]]), some (cellsR b_arg9 41 [v1]), some (rowS SegS v1 l1), some (mapR b1 .i64 (fun x : Int => x) vB map1)]) (shr' := [Fact.sl RegionS varg51 arg5.l]) [0, 1, 2, 3, 4, 5, 6, 7, 8, 9, 14, 33] [0, 1, 2, 3, 4, 5, 6, 7, 8, 9] [0] rfl rfl rfl rfl ?_)
  refine Tk_condT rfl ?_
  refine Tk_seq (Tk_region (Tops_step rfl (OpT_storeC (cs' := [vI (4 : Int)]) rfl rfl rfl rfl tyF37 (i := 0) rfl rfl rfl (one_of rfl) rfl) ?_))
  refine Tops_nil (Tk_wkS (fr' := []) (own' := [some (cellsR b_arg4 37 [vI (4 : Int)]), some (cellsR bb_arg5 25 [.pointer (some ⟨b_arg5, 0, none⟩)]), some (cellsR b_arg5 113 [varg51, varg52]), some (rowsX u8S true varg52 vsarg51 arg5.b none), some (cellsR b_arg6 3 [vI m2]), some (cellsR b_arg7 4 [vB m3]), some (cellsR b_arg8 156 [.func (.func 84) #[] #[.pointer (some ⟨b_arg4, 0, none⟩), .pointer (some ⟨bb_arg5, 0, none⟩), .pointer (some ⟨b_arg6, 0, none⟩), .pointer (some ⟨b_arg7, 0, none⟩), .pointer (some ⟨b_arg8, 0, none⟩), .pointer (some ⟨b_arg9, 0, none⟩)]]), some (cellsR b_arg9 41 [v1]), some (rowS SegS v1 l1)]) (shr' := [Fact.sl RegionS varg51 arg5.l]) [] [0, 1, 2, 3, 4, 5, 6, 7, 8] [0] rfl rfl rfl rfl ?_)
  obtain rfl := Option.some.inj h
  exact Tk_retV rfl rfl (resA (vs := []) rfl trivial) [0, 1, 2, 3, 4, 5, 6, 7, 8] [] rfl rfl rfl ⟨v1, rfl, rfl, rfl⟩
 ·replace h := br_f hg1 h
  refine Tops_yes rfl rfl (congrArg (fun b => some (Value.bool b)) hg1) (OpT_move rfl rfl rfl rfl) ?_
  rintro _ rfl
  refine Tops_yes rfl rfl (congrArg (fun b => some (Value.bool b)) hg1) (OpT_bin rfl rfl rfl rfl rfl (bin_lss_i (a := k1) (b := (0 : Int)))) ?_
  rintro _ rfl
  refine Tops_step rfl (OpT_pickF rfl rfl rfl (congrArg (fun b => some (Value.bool b)) hg1) rfl) ?_
  refine Tops_step rfl (OpT_move rfl rfl rfl rfl) ?_
  rcases Bool.eq_false_or_eq_true (decide (k1 < (0 : Int))) with hg2 | hg2
  ·replace h := br_t hg2 h
   refine Tops_no rfl rfl (congrArg (fun b => some (Value.bool b)) hg2) rfl rfl ?_
   refine Tops_no rfl rfl (congrArg (fun b => some (Value.bool b)) hg2) rfl rfl ?_
   refine Tops_no rfl rfl (congrArg (fun b => some (Value.bool b)) hg2) rfl rfl ?_
   refine Tops_step rfl (OpT_pickT rfl rfl rfl (congrArg (fun b => some (Value.bool b)) hg2) rfl) ?_
   refine Tops_nil (Tk_wkS (fr' := [(0, some (vU64 atp0)), (1, some (vI size)), (2, some (vI k1)), (3, some (vB true)), (4, some (.pointer (some ⟨b_arg4, 0, none⟩))), (5, some (.pointer (some ⟨bb_arg5, 0, none⟩))), (6, some (.pointer (some ⟨b_arg6, 0, none⟩))), (7, some (.pointer (some ⟨b_arg7, 0, none⟩))), (8, some (.pointer (some ⟨b_arg8, 0, none⟩))), (9, some (.pointer (some ⟨b_arg9, 0, none⟩))), (14, some (.map (some b1))), (33, some (vB true))]) (own' := [some (cellsR b_arg4 37 [vI m1]), some (cellsR bb_arg5 25 [.pointer (some ⟨b_arg5, 0, none⟩)]), some (cellsR b_arg5 113 [varg51, varg52]), some (rowsX u8S true varg52 vsarg51 arg5.b none), some (cellsR b_arg6 3 [vI m2]), some (cellsR b_arg7 4 [vB m3]), some (cellsR b_arg8 156 [.func (.func 84) #[] #[.pointer (some ⟨b_arg4, 0, none⟩), .pointer (some ⟨bb_arg5, 0, none⟩), .pointer (some ⟨b_arg6, 0, none⟩), .pointer (some ⟨b_arg7, 0, none⟩), .pointer (some ⟨b_arg8, 0, none⟩), .pointer (some ⟨b_arg9, 0, none⟩)]]), some (cellsR b_arg9 41 [v1]), some (rowS SegS v1 l1), some (mapR b1 .i64 (fun x : Int => x) vB map1)]) (shr' := [Fact.sl RegionS varg51 arg5.l]) [0, 1, 2, 3, 4, 5, 6, 7, 8, 9, 14, 33] [0, 1, 2, 3, 4, 5, 6, 7, 8, 9] [0] rfl rfl rfl rfl ?_)
   refine Tk_condT rfl ?_
   refine Tk_seq (Tk_region (Tops_step rfl (OpT_storeC (cs' := [vI (4 : Int)]) rfl rfl rfl rfl tyF37 (i := 0) rfl rfl rfl (one_of rfl) rfl) ?_))
   refine Tops_nil (Tk_wkS (fr' := []) (own' := [some (cellsR b_arg4 37 [vI (4 : Int)]), some (cellsR bb_arg5 25 [.pointer (some ⟨b_arg5, 0, none⟩)]), some (cellsR b_arg5 113 [varg51, varg52]), some (rowsX u8S true varg52 vsarg51 arg5.b none), some (cellsR b_arg6 3 [vI m2]), some (cellsR b_arg7 4 [vB m3]), some (cellsR b_arg8 156 [.func (.func 84) #[] #[.pointer (some ⟨b_arg4, 0, none⟩), .pointer (some ⟨bb_arg5, 0, none⟩), .pointer (some ⟨b_arg6, 0, none⟩), .pointer (some ⟨b_arg7, 0, none⟩), .pointer (some ⟨b_arg8, 0, none⟩), .pointer (some ⟨b_arg9, 0, none⟩)]]), some (cellsR b_arg9 41 [v1]), some (rowS SegS v1 l1)]) (shr' := [Fact.sl RegionS varg51 arg5.l]) [] [0, 1, 2, 3, 4, 5, 6, 7, 8] [0] rfl rfl rfl rfl ?_)
   obtain rfl := Option.some.inj h
   exact Tk_retV rfl rfl (resA (vs := []) rfl trivial) [0, 1, 2, 3, 4, 5, 6, 7, 8] [] rfl rfl rfl ⟨v1, rfl, rfl, rfl⟩
  ·replace h := br_f hg2 h
   refine Tops_yes rfl rfl (congrArg (fun b => some (Value.bool b)) hg2) (OpT_move rfl rfl rfl rfl) ?_
   rintro _ rfl
   refine Tops_yes rfl rfl (congrArg (fun b => some (Value.bool b)) hg2) (OpT_move rfl rfl rfl rfl) ?_
   rintro _ rfl
   refine Tops_yes rfl rfl (congrArg (fun b => some (Value.bool b)) hg2) (OpT_bin rfl rfl rfl rfl rfl (bin_geq_i (a := k1) (b := size))) ?_
   rintro _ rfl
   refine Tops_step rfl (OpT_pickF rfl rfl rfl (congrArg (fun b => some (Value.bool b)) hg2) rfl) ?_
   refine Tops_nil (Tk_wkS (fr' := [(0, some (vU64 atp0)), (1, some (vI size)), (2, some (vI k1)), (3, some (vB true)), (4, some (.pointer (some ⟨b_arg4, 0, none⟩))), (5, some (.pointer (some ⟨bb_arg5, 0, none⟩))), (6, some (.pointer (some ⟨b_arg6, 0, none⟩))), (7, some (.pointer (some ⟨b_arg7, 0, none⟩))), (8, some (.pointer (some ⟨b_arg8, 0, none⟩))), (9, some (.pointer (some ⟨b_arg9, 0, none⟩))), (14, some (.map (some b1))), (33, some (vB (decide (k1 ≥ size))))]) (own' := [some (cellsR b_arg4 37 [vI m1]), some (cellsR bb_arg5 25 [.pointer (some ⟨b_arg5, 0, none⟩)]), some (cellsR b_arg5 113 [varg51, varg52]), some (rowsX u8S true varg52 vsarg51 arg5.b none), some (cellsR b_arg6 3 [vI m2]), some (cellsR b_arg7 4 [vB m3]), some (cellsR b_arg8 156 [.func (.func 84) #[] #[.pointer (some ⟨b_arg4, 0, none⟩), .pointer (some ⟨bb_arg5, 0, none⟩), .pointer (some ⟨b_arg6, 0, none⟩), .pointer (some ⟨b_arg7, 0, none⟩), .pointer (some ⟨b_arg8, 0, none⟩), .pointer (some ⟨b_arg9, 0, none⟩)]]), some (cellsR b_arg9 41 [v1]), some (rowS SegS v1 l1), some (mapR b1 .i64 (fun x : Int => x) vB map1)]) (shr' := [Fact.sl RegionS varg51 arg5.l]) [0, 1, 2, 3, 4, 5, 6, 7, 8, 9, 14, 33] [0, 1, 2, 3, 4, 5, 6, 7, 8, 9] [0] rfl rfl rfl rfl ?_)
   rcases Bool.eq_false_or_eq_true (decide (k1 ≥ size)) with hg3 | hg3
   ·replace h := br_t hg3 h
    refine Tk_condT (congrArg (fun b => some (Value.bool b)) hg3) ?_
    refine Tk_seq (Tk_region (Tops_step rfl (OpT_storeC (cs' := [vI (4 : Int)]) rfl rfl rfl rfl tyF37 (i := 0) rfl rfl rfl (one_of rfl) rfl) ?_))
    refine Tops_nil (Tk_wkS (fr' := []) (own' := [some (cellsR b_arg4 37 [vI (4 : Int)]), some (cellsR bb_arg5 25 [.pointer (some ⟨b_arg5, 0, none⟩)]), some (cellsR b_arg5 113 [varg51, varg52]), some (rowsX u8S true varg52 vsarg51 arg5.b none), some (cellsR b_arg6 3 [vI m2]), some (cellsR b_arg7 4 [vB m3]), some (cellsR b_arg8 156 [.func (.func 84) #[] #[.pointer (some ⟨b_arg4, 0, none⟩), .pointer (some ⟨bb_arg5, 0, none⟩), .pointer (some ⟨b_arg6, 0, none⟩), .pointer (some ⟨b_arg7, 0, none⟩), .pointer (some ⟨b_arg8, 0, none⟩), .pointer (some ⟨b_arg9, 0, none⟩)]]), some (cellsR b_arg9 41 [v1]), some (rowS SegS v1 l1)]) (shr' := [Fact.sl RegionS varg51 arg5.l]) [] [0, 1, 2, 3, 4, 5, 6, 7, 8] [0] rfl rfl rfl rfl ?_)
    obtain rfl := Option.some.inj h
    exact Tk_retV rfl rfl (resA (vs := []) rfl trivial) [0, 1, 2, 3, 4, 5, 6, 7, 8] [] rfl rfl rfl ⟨v1, rfl, rfl, rfl⟩
   ·replace h := br_f hg3 h
    refine Tk_condF (congrArg (fun b => some (Value.bool b)) hg3) ?_
    refine Tk_skip (Tk_seq (Tk_region (Tops_step rfl (OpT_move rfl rfl rfl rfl) ?_)))
    refine Tops_step rfl (OpT_move rfl rfl rfl rfl) ?_
    refine Tops_step rfl (OpT_mapUpdate keyI k1 true (V := vB) (z := false) rfl rfl rfl rfl rfl rfl Try.underlying157 Try.underlying3 (i := 9) rfl rfl) ?_
    refine Tops_nil (Tk_wkS (fr' := [(0, some (vU64 atp0)), (1, some (vI size)), (2, some (vI k1)), (3, some (vB true)), (4, some (.pointer (some ⟨b_arg4, 0, none⟩))), (5, some (.pointer (some ⟨bb_arg5, 0, none⟩))), (6, some (.pointer (some ⟨b_arg6, 0, none⟩))), (7, some (.pointer (some ⟨b_arg7, 0, none⟩))), (8, some (.pointer (some ⟨b_arg8, 0, none⟩))), (9, some (.pointer (some ⟨b_arg9, 0, none⟩))), (14, some (.map (some b1)))]) (own' := [some (cellsR b_arg4 37 [vI m1]), some (cellsR bb_arg5 25 [.pointer (some ⟨b_arg5, 0, none⟩)]), some (cellsR b_arg5 113 [varg51, varg52]), some (rowsX u8S true varg52 vsarg51 arg5.b none), some (cellsR b_arg6 3 [vI m2]), some (cellsR b_arg7 4 [vB m3]), some (cellsR b_arg8 156 [.func (.func 84) #[] #[.pointer (some ⟨b_arg4, 0, none⟩), .pointer (some ⟨bb_arg5, 0, none⟩), .pointer (some ⟨b_arg6, 0, none⟩), .pointer (some ⟨b_arg7, 0, none⟩), .pointer (some ⟨b_arg8, 0, none⟩), .pointer (some ⟨b_arg9, 0, none⟩)]]), some (cellsR b_arg9 41 [v1]), some (rowS SegS v1 l1), some (mapR b1 .i64 (fun x : Int => x) vB (mput k1 true map1))]) (shr' := [Fact.sl RegionS varg51 arg5.l]) [0, 1, 2, 3, 4, 5, 6, 7, 8, 9, 14] [0, 1, 2, 3, 4, 5, 6, 7, 8, 9] [0] rfl rfl rfl rfl ?_)
    refine Tk_seq (Tk_region (Tops_step rfl (OpT_loadC rfl rfl rfl rfl tyF25 (i := 1) rfl rfl) ?_))
    refine Tops_step rfl (OpT_move rfl rfl rfl rfl) ?_
    refine Tops_step rfl (OpT_move rfl rfl rfl rfl) ?_
    refine Tops_step rfl (OpT_cnv rfl rfl rfl rfl (cnv_i_u64 (n := k1) Try.underlying3 Try.underlying27)) ?_
    refine Tops_step rfl (OpT_bin rfl rfl rfl rfl rfl (bin_mul_u64 (a := (16 : UInt64)) (b := u64 k1))) ?_
    refine Tops_step rfl (OpT_bin rfl rfl rfl rfl rfl (bin_add_u64 (a := atp0) (b := (16 : UInt64) * (u64 k1)))) ?_
    obtain ⟨read1, hx1, h⟩ := ob_e h
    refine Tops_exP rfl (OpT_callP [0, 1, 10, 11, 4, 5, 6, 7, 8, 9, 12] (w_gmem_Mem_Read hx1) [2, 3] [0] rfl rfl rfl rfl rfl callee82 rfl rfl rfl rfl rfl) ?_
    rintro _ ⟨_, _, _, ⟨v2, rfl, rfl, rfl⟩, rfl⟩
    refine Tops_step rfl (OpT_move rfl rfl rfl rfl) ?_
    refine Tops_step rfl (OpT_extract rfl rfl rfl rfl rfl) ?_
    refine Tops_step rfl (OpT_extract rfl rfl rfl rfl rfl) ?_
    refine Tops_step rfl (OpT_assign rfl rfl rfl rfl) ?_
    refine Tops_step rfl (OpT_assign rfl rfl rfl rfl) ?_
    refine Tops_nil (Tk_wkS (fr' := [(0, some (vU64 atp0)), (1, some (vI size)), (3, some (vB true)), (4, some (.pointer (some ⟨b_arg4, 0, none⟩))), (5, some (.pointer (some ⟨bb_arg5, 0, none⟩))), (6, some (.pointer (some ⟨b_arg6, 0, none⟩))), (7, some (.pointer (some ⟨b_arg7, 0, none⟩))), (8, some (.pointer (some ⟨b_arg8, 0, none⟩))), (9, some (.pointer (some ⟨b_arg9, 0, none⟩))), (14, some (.map (some b1))), (15, some (v2)), (16, some (vI read1.2))]) (own' := [some (cellsR b_arg4 37 [vI m1]), some (cellsR bb_arg5 25 [.pointer (some ⟨b_arg5, 0, none⟩)]), some (cellsR b_arg5 113 [varg51, varg52]), some (rowsX u8S true varg52 vsarg51 arg5.b none), some (cellsR b_arg6 3 [vI m2]), some (cellsR b_arg7 4 [vB m3]), some (cellsR b_arg8 156 [.func (.func 84) #[] #[.pointer (some ⟨b_arg4, 0, none⟩), .pointer (some ⟨bb_arg5, 0, none⟩), .pointer (some ⟨b_arg6, 0, none⟩), .pointer (some ⟨b_arg7, 0, none⟩), .pointer (some ⟨b_arg8, 0, none⟩), .pointer (some ⟨b_arg9, 0, none⟩)]]), some (cellsR b_arg9 41 [v1]), some (rowS SegS v1 l1), some (mapR b1 .i64 (fun x : Int => x) vB (mput k1 true map1)), some (rowS u8S v2 read1.1)]) (shr' := [Fact.sl RegionS varg51 arg5.l]) [0, 1, 3, 4, 5, 6, 7, 8, 9, 14, 15, 16] [0, 1, 2, 3, 4, 5, 6, 7, 8, 9, 10] [0] rfl rfl rfl rfl ?_)
    refine Tk_seq (Tk_seq (Tk_region (Tops_step rfl (OpT_move rfl rfl rfl rfl) ?_)))
    refine Tops_step rfl (OpT_bin rfl rfl rfl rfl rfl (bin_neq_i (a := read1.2) (b := (0 : Int)))) ?_
    refine Tops_nil (Tk_wkS (fr' := [(0, some (vU64 atp0)), (1, some (vI size)), (3, some (vB true)), (4, some (.pointer (some ⟨b_arg4, 0, none⟩))), (5, some (.pointer (some ⟨bb_arg5, 0, none⟩))), (6, some (.pointer (some ⟨b_arg6, 0, none⟩))), (7, some (.pointer (some ⟨b_arg7, 0, none⟩))), (8, some (.pointer (some ⟨b_arg8, 0, none⟩))), (9, some (.pointer (some ⟨b_arg9, 0, none⟩))), (14, some (.map (some b1))), (15, some (v2)), (47, some (vB (read1.2 != (0 : Int))))]) (own' := [some (cellsR b_arg4 37 [vI m1]), some (cellsR bb_arg5 25 [.pointer (some ⟨b_arg5, 0, none⟩)]), some (cellsR b_arg5 113 [varg51, varg52]), some (rowsX u8S true varg52 vsarg51 arg5.b none), some (cellsR b_arg6 3 [vI m2]), some (cellsR b_arg7 4 [vB m3]), some (cellsR b_arg8 156 [.func (.func 84) #[] #[.pointer (some ⟨b_arg4, 0, none⟩), .pointer (some ⟨bb_arg5, 0, none⟩), .pointer (some ⟨b_arg6, 0, none⟩), .pointer (some ⟨b_arg7, 0, none⟩), .pointer (some ⟨b_arg8, 0, none⟩), .pointer (some ⟨b_arg9, 0, none⟩)]]), some (cellsR b_arg9 41 [v1]), some (rowS SegS v1 l1), some (mapR b1 .i64 (fun x : Int => x) vB (mput k1 true map1)), some (rowS u8S v2 read1.1)]) (shr' := [Fact.sl RegionS varg51 arg5.l]) [0, 1, 3, 4, 5, 6, 7, 8, 9, 14, 15, 47] [0, 1, 2, 3, 4, 5, 6, 7, 8, 9, 10] [0] rfl rfl rfl rfl ?_)
    rcases Bool.eq_false_or_eq_true (read1.2 != (0 : Int)) with hg4 | hg4
    ·replace h := br_t hg4 h
     refine Tk_condT (congrArg (fun b => some (Value.bool b)) hg4) ?_
     refine Tk_seq (Tk_region (Tops_step rfl (OpT_storeC (cs' := [vI (5 : Int)]) rfl rfl rfl rfl tyF37 (i := 0) rfl rfl rfl (one_of rfl) rfl) ?_))
     refine Tops_nil (Tk_wkS (fr' := []) (own' := [some (cellsR b_arg4 37 [vI (5 : Int)]), some (cellsR bb_arg5 25 [.pointer (some ⟨b_arg5, 0, none⟩)]), some (cellsR b_arg5 113 [varg51, varg52]), some (rowsX u8S true varg52 vsarg51 arg5.b none), some (cellsR b_arg6 3 [vI m2]), some (cellsR b_arg7 4 [vB m3]), some (cellsR b_arg8 156 [.func (.func 84) #[] #[.pointer (some ⟨b_arg4, 0, none⟩), .pointer (some ⟨bb_arg5, 0, none⟩), .pointer (some ⟨b_arg6, 0, none⟩), .pointer (some ⟨b_arg7, 0, none⟩), .pointer (some ⟨b_arg8, 0, none⟩), .pointer (some ⟨b_arg9, 0, none⟩)]]), some (cellsR b_arg9 41 [v1]), some (rowS SegS v1 l1)]) (shr' := [Fact.sl RegionS varg51 arg5.l]) [] [0, 1, 2, 3, 4, 5, 6, 7, 8] [0] rfl rfl rfl rfl ?_)
     obtain rfl := Option.some.inj h
     exact Tk_retV rfl rfl (resA (vs := []) rfl trivial) [0, 1, 2, 3, 4, 5, 6, 7, 8] [] rfl rfl rfl ⟨v1, rfl, rfl, rfl⟩
    ·replace h := br_f hg4 h
     refine Tk_condF (congrArg (fun b => some (Value.bool b)) hg4) ?_
     refine Tk_skip (Tk_seq (Tk_region (Tops_step rfl (OpT_loadC rfl rfl rfl rfl tyF3 (i := 4) rfl rfl) ?_)))
     refine Tops_step rfl (OpT_bin rfl rfl rfl rfl rfl (bin_add_i (a := m2) (b := (1 : Int)))) ?_
     refine Tops_step rfl (OpT_storeC (cs' := [vI (wi (m2 + (1 : Int)))]) rfl rfl rfl rfl tyF3 (i := 4) rfl rfl rfl (one_of rfl) rfl) ?_
     refine Tops_nil (Tk_wkS (fr' := [(0, some (vU64 atp0)), (1, some (vI size)), (3, some (vB true)), (4, some (.pointer (some ⟨b_arg4, 0, none⟩))), (5, some (.pointer (some ⟨bb_arg5, 0, none⟩))), (6, some (.pointer (some ⟨b_arg6, 0, none⟩))), (7, some (.pointer (some ⟨b_arg7, 0, none⟩))), (8, some (.pointer (some ⟨b_arg8, 0, none⟩))), (9, some (.pointer (some ⟨b_arg9, 0, none⟩))), (14, some (.map (some b1))), (15, some (v2))]) (own' := [some (cellsR b_arg4 37 [vI m1]), some (cellsR bb_arg5 25 [.pointer (some ⟨b_arg5, 0, none⟩)]), some (cellsR b_arg5 113 [varg51, varg52]), some (rowsX u8S true varg52 vsarg51 arg5.b none), some (cellsR b_arg6 3 [vI (wi (m2 + (1 : Int)))]), some (cellsR b_arg7 4 [vB m3]), some (cellsR b_arg8 156 [.func (.func 84) #[] #[.pointer (some ⟨b_arg4, 0, none⟩), .pointer (some ⟨bb_arg5, 0, none⟩), .pointer (some ⟨b_arg6, 0, none⟩), .pointer (some ⟨b_arg7, 0, none⟩), .pointer (some ⟨b_arg8, 0, none⟩), .pointer (some ⟨b_arg9, 0, none⟩)]]), some (cellsR b_arg9 41 [v1]), some (rowS SegS v1 l1), some (mapR b1 .i64 (fun x : Int => x) vB (mput k1 true map1)), some (rowS u8S v2 read1.1)]) (shr' := [Fact.sl RegionS varg51 arg5.l]) [0, 1, 3, 4, 5, 6, 7, 8, 9, 14, 15] [0, 1, 2, 3, 4, 5, 6, 7, 8, 9, 10] [0] rfl rfl rfl rfl ?_)
     refine Tk_seq (Tk_region (Tops_step rfl (OpT_move rfl rfl rfl rfl) ?_))
     obtain ⟨read2, hx2, h⟩ := ob_e h
     refine Tops_exP rfl (OpT_callB [10] [0, 1, 2, 3, 4, 5, 6, 7, 8, 9, 10] (w_desc_Read hx2) [] rfl rfl rfl rfl rfl callee85 rfl rfl rfl rfl rfl rfl (bor_cons (bor_row 10 rfl rfl) bor_nil) (by rintro _ _ _ ⟨rfl, rfl, rfl⟩; exact ⟨rfl, ri_nil⟩)) ?_
     rintro _ ⟨_, _, _, ⟨rfl, rfl, rfl⟩, rfl⟩
     refine Tops_step rfl (OpT_move rfl rfl rfl rfl) ?_
     refine Tops_step rfl (OpT_extract rfl rfl rfl rfl rfl) ?_
     refine Tops_step rfl (OpT_extract rfl rfl rfl rfl rfl) ?_
     refine Tops_ex rfl (OpT_alloc rfl rfl rfl tyZ36) fun b2 => ?_
     refine Tops_step rfl (OpT_storeC (cs' := [vU64 read2.1.Addr, vU32 read2.1.Len, vU16 read2.1.Flags, vU16 read2.1.Next]) rfl rfl rfl rfl tyF36 (i := 11) rfl rfl rfl (one_of rfl) rfl) ?_
     refine Tops_step rfl (OpT_assign rfl rfl rfl rfl) ?_
     refine Tops_nil (Tk_wkS (fr' := [(0, some (vU64 atp0)), (1, some (vI size)), (3, some (vB true)), (4, some (.pointer (some ⟨b_arg4, 0, none⟩))), (5, some (.pointer (some ⟨bb_arg5, 0, none⟩))), (6, some (.pointer (some ⟨b_arg6, 0, none⟩))), (7, some (.pointer (some ⟨b_arg7, 0, none⟩))), (8, some (.pointer (some ⟨b_arg8, 0, none⟩))), (9, some (.pointer (some ⟨b_arg9, 0, none⟩))), (14, some (.map (some b1))), (17, some (.pointer (some ⟨b2, 0, none⟩)))]) (own' := [some (cellsR b_arg4 37 [vI m1]), some (cellsR bb_arg5 25 [.pointer (some ⟨b_arg5, 0, none⟩)]), some (cellsR b_arg5 113 [varg51, varg52]), some (rowsX u8S true varg52 vsarg51 arg5.b none), some (cellsR b_arg6 3 [vI (wi (m2 + (1 : Int)))]), some (cellsR b_arg7 4 [vB m3]), some (cellsR b_arg8 156 [.func (.func 84) #[] #[.pointer (some ⟨b_arg4, 0, none⟩), .pointer (some ⟨bb_arg5, 0, none⟩), .pointer (some ⟨b_arg6, 0, none⟩), .pointer (some ⟨b_arg7, 0, none⟩), .pointer (some ⟨b_arg8, 0, none⟩), .pointer (some ⟨b_arg9, 0, none⟩)]]), some (cellsR b_arg9 41 [v1]), some (rowS SegS v1 l1), some (mapR b1 .i64 (fun x : Int => x) vB (mput k1 true map1)), some (cellsR b2 36 [vU64 read2.1.Addr, vU32 read2.1.Len, vU16 read2.1.Flags, vU16 read2.1.Next])]) (shr' := [Fact.sl RegionS varg51 arg5.l]) [0, 1, 3, 4, 5, 6, 7, 8, 9, 14, 17] [0, 1, 2, 3, 4, 5, 6, 7, 8, 9, 11] [0] rfl rfl rfl rfl ?_)
     refine Tk_seq (Tk_seq (Tk_region (Tops_step rfl (OpT_fieldC rfl rfl rfl rfl fldF36x2) ?_)))
     refine Tops_step rfl (OpT_loadC rfl rfl rfl rfl tyF34 (i := 10) rfl rfl) ?_
     refine Tops_step rfl (OpT_bin rfl rfl rfl rfl rfl (bin_and_u16 (a := read2.1.Flags) (b := (4 : UInt16)))) ?_
     refine Tops_step rfl (OpT_bin rfl rfl rfl rfl rfl (bin_neq_u16 (a := read2.1.Flags &&& (4 : UInt16)) (b := (0 : UInt16)))) ?_
     refine Tops_nil (Tk_wkS (fr' := [(0, some (vU64 atp0)), (1, some (vI size)), (3, some (vB true)), (4, some (.pointer (some ⟨b_arg4, 0, none⟩))), (5, some (.pointer (some ⟨bb_arg5, 0, none⟩))), (6, some (.pointer (some ⟨b_arg6, 0, none⟩))), (7, some (.pointer (some ⟨b_arg7, 0, none⟩))), (8, some (.pointer (some ⟨b_arg8, 0, none⟩))), (9, some (.pointer (some ⟨b_arg9, 0, none⟩))), (14, some (.map (some b1))), (17, some (.pointer (some ⟨b2, 0, none⟩))), (58, some (vB ((read2.1.Flags &&& (4 : UInt16)) != (0 : UInt16))))]) (own' := [some (cellsR b_arg4 37 [vI m1]), some (cellsR bb_arg5 25 [.pointer (some ⟨b_arg5, 0, none⟩)]), some (cellsR b_arg5 113 [varg51, varg52]), some (rowsX u8S true varg52 vsarg51 arg5.b none), some (cellsR b_arg6 3 [vI (wi (m2 + (1 : Int)))]), some (cellsR b_arg7 4 [vB m3]), some (cellsR b_arg8 156 [.func (.func 84) #[] #[.pointer (some ⟨b_arg4, 0, none⟩), .pointer (some ⟨bb_arg5, 0, none⟩), .pointer (some ⟨b_arg6, 0, none⟩), .pointer (some ⟨b_arg7, 0, none⟩), .pointer (some ⟨b_arg8, 0, none⟩), .pointer (some ⟨b_arg9, 0, none⟩)]]), some (cellsR b_arg9 41 [v1]), some (rowS SegS v1 l1), some (mapR b1 .i64 (fun x : Int => x) vB (mput k1 true map1)), some (cellsR b2 36 [vU64 read2.1.Addr, vU32 read2.1.Len, vU16 read2.1.Flags, vU16 read2.1.Next])]) (shr' := [Fact.sl RegionS varg51 arg5.l]) [0, 1, 3, 4, 5, 6, 7, 8, 9, 14, 17, 58] [0, 1, 2, 3, 4, 5, 6, 7, 8, 9, 10] [0] rfl rfl rfl rfl ?_)
     rcases Bool.eq_false_or_eq_true ((read2.1.Flags &&& (4 : UInt16)) != (0 : UInt16)) with hg5 | hg5
     ·replace h := br_t hg5 h
      refine Tk_condT (congrArg (fun b => some (Value.bool b)) hg5) ?_
      refine Tk_seq (Tk_seq (Tk_region (Tops_step rfl (OpT_move rfl rfl rfl rfl) ?_)))
      refine Tops_step rfl (OpT_move rfl rfl rfl rfl) ?_
      refine Tops_no rfl rfl rfl rfl rfl ?_
      refine Tops_no rfl rfl rfl rfl rfl ?_
      refine Tops_step rfl (OpT_pickT rfl rfl rfl rfl rfl) ?_
      refine Tops_step rfl (OpT_move rfl rfl rfl rfl) ?_
      refine Tops_no rfl rfl rfl rfl rfl ?_
      refine Tops_no rfl rfl rfl rfl rfl ?_
      refine Tops_no rfl rfl rfl rfl rfl ?_
      refine Tops_no rfl rfl rfl rfl rfl ?_
      refine Tops_step rfl (OpT_pickT rfl rfl rfl rfl rfl) ?_
      refine Tops_nil (Tk_wkS (fr' := [(4, some (.pointer (some ⟨b_arg4, 0, none⟩))), (5, some (.pointer (some ⟨bb_arg5, 0, none⟩))), (8, some (.pointer (some ⟨b_arg8, 0, none⟩))), (17, some (.pointer (some ⟨b2, 0, none⟩))), (69, some (vB true))]) (own' := [some (cellsR b_arg4 37 [vI m1]), some (cellsR bb_arg5 25 [.pointer (some ⟨b_arg5, 0, none⟩)]), some (cellsR b_arg5 113 [varg51, varg52]), some (rowsX u8S true varg52 vsarg51 arg5.b none), some (cellsR b_arg6 3 [vI (wi (m2 + (1 : Int)))]), some (cellsR b_arg7 4 [vB m3]), some (cellsR b_arg8 156 [.func (.func 84) #[] #[.pointer (some ⟨b_arg4, 0, none⟩), .pointer (some ⟨bb_arg5, 0, none⟩), .pointer (some ⟨b_arg6, 0, none⟩), .pointer (some ⟨b_arg7, 0, none⟩), .pointer (some ⟨b_arg8, 0, none⟩), .pointer (some ⟨b_arg9, 0, none⟩)]]), some (cellsR b_arg9 41 [v1]), some (rowS SegS v1 l1), some (cellsR b2 36 [vU64 read2.1.Addr, vU32 read2.1.Len, vU16 read2.1.Flags, vU16 read2.1.Next])]) (shr' := [Fact.sl RegionS varg51 arg5.l]) [4, 5, 8, 17, 69] [0, 1, 2, 3, 4, 5, 6, 7, 8, 10] [0] rfl rfl rfl rfl ?_)
      refine Tk_condT rfl ?_
      refine Tk_seq (Tk_region (Tops_step rfl (OpT_storeC (cs' := [vI (4 : Int)]) rfl rfl rfl rfl tyF37 (i := 0) rfl rfl rfl (one_of rfl) rfl) ?_))
      refine Tops_nil (Tk_wkS (fr' := []) (own' := [some (cellsR b_arg4 37 [vI (4 : Int)]), some (cellsR bb_arg5 25 [.pointer (some ⟨b_arg5, 0, none⟩)]), some (cellsR b_arg5 113 [varg51, varg52]), some (rowsX u8S true varg52 vsarg51 arg5.b none), some (cellsR b_arg6 3 [vI (wi (m2 + (1 : Int)))]), some (cellsR b_arg7 4 [vB m3]), some (cellsR b_arg8 156 [.func (.func 84) #[] #[.pointer (some ⟨b_arg4, 0, none⟩), .pointer (some ⟨bb_arg5, 0, none⟩), .pointer (some ⟨b_arg6, 0, none⟩), .pointer (some ⟨b_arg7, 0, none⟩), .pointer (some ⟨b_arg8, 0, none⟩), .pointer (some ⟨b_arg9, 0, none⟩)]]), some (cellsR b_arg9 41 [v1]), some (rowS SegS v1 l1)]) (shr' := [Fact.sl RegionS varg51 arg5.l]) [] [0, 1, 2, 3, 4, 5, 6, 7, 8] [0] rfl rfl rfl rfl ?_)
      obtain rfl := Option.some.inj h
      exact Tk_retV rfl rfl (resA (vs := []) rfl trivial) [0, 1, 2, 3, 4, 5, 6, 7, 8] [] rfl rfl rfl ⟨v1, rfl, rfl, rfl⟩
     ·replace h := br_f hg5 h
      refine Tk_condF (congrArg (fun b => some (Value.bool b)) hg5) ?_
      refine Tk_skip (Tk_seq (Tk_drawT (by kernel_rfl) ?_))
      refine TA_tb [0, 0, 2, 0, 8, 0, 32, 126, 254, 511, 1023] (by kernel_rfl) fun htb => ?_
      refine TA_wkS (fr' := [(0, some (vU64 atp0)), (1, some (vI size)), (3, some (vB true)), (4, some (.pointer (some ⟨b_arg4, 0, none⟩))), (5, some (.pointer (some ⟨bb_arg5, 0, none⟩))), (6, some (.pointer (some ⟨b_arg6, 0, none⟩))), (7, some (.pointer (some ⟨b_arg7, 0, none⟩))), (8, some (.pointer (some ⟨b_arg8, 0, none⟩))), (9, some (.pointer (some ⟨b_arg9, 0, none⟩))), (14, some (.map (some b1))), (17, some (.pointer (some ⟨b2, 0, none⟩)))]) (own' := [some (cellsR b_arg4 37 [vI m1]), some (cellsR bb_arg5 25 [.pointer (some ⟨b_arg5, 0, none⟩)]), some (cellsR b_arg5 113 [varg51, varg52]), some (rowsX u8S true varg52 vsarg51 arg5.b none), some (cellsR b_arg6 3 [vI (wi (m2 + (1 : Int)))]), some (cellsR b_arg7 4 [vB m3]), some (cellsR b_arg8 156 [.func (.func 84) #[] #[.pointer (some ⟨b_arg4, 0, none⟩), .pointer (some ⟨bb_arg5, 0, none⟩), .pointer (some ⟨b_arg6, 0, none⟩), .pointer (some ⟨b_arg7, 0, none⟩), .pointer (some ⟨b_arg8, 0, none⟩), .pointer (some ⟨b_arg9, 0, none⟩)]]), some (cellsR b_arg9 41 [v1]), some (rowS SegS v1 l1), some (mapR b1 .i64 (fun x : Int => x) vB (mput k1 true map1)), some (cellsR b2 36 [vU64 read2.1.Addr, vU32 read2.1.Len, vU16 read2.1.Flags, vU16 read2.1.Next])]) (shr' := [Fact.sl RegionS varg51 arg5.l]) [0, 1, 3, 4, 5, 6, 7, 8, 9, 14, 17] [0, 1, 2, 3, 4, 5, 6, 7, 8, 9, 10] [0] rfl rfl rfl rfl ?_
      obtain ⟨made1, hx3, h⟩ := ob_e h
      refine TA_seg (lo := 0) (hi := 9) htb rfl rfl (by kernel_rfl) (fun c L a w => ∃ (v3 : Value), Sat c ⟨[(0, some (vU64 atp0)), (1, some (vI size)), (3, some (vB true)), (4, some (.pointer (some ⟨b_arg4, 0, none⟩))), (5, some (.pointer (some ⟨bb_arg5, 0, none⟩))), (6, some (.pointer (some ⟨b_arg6, 0, none⟩))), (7, some (.pointer (some ⟨b_arg7, 0, none⟩))), (8, some (.pointer (some ⟨b_arg8, 0, none⟩))), (9, some (.pointer (some ⟨b_arg9, 0, none⟩))), (14, some (.map (some b1))), (17, some (.pointer (some ⟨b2, 0, none⟩))), (87, bif L 0 then some (v1) else none), (88, bif L 1 then some (.pointer (some ⟨b2, 0, none⟩)) else none), (89, bif L 2 then some (vU64 read2.1.Addr) else none), (90, bif L 3 then some (.pointer (some ⟨b2, 1, none⟩)) else none), (91, bif L 4 then some (vU32 read2.1.Len) else none), (92, bif L 5 then some (.pointer (some ⟨b2, 2, none⟩)) else none), (93, bif L 6 then some (vU16 read2.1.Flags) else none), (94, bif L 7 then some (.agg #[vU64 made1.At, vU32 made1.Len, vB made1.Write]) else none), (95, bif L 8 then some (v3) else none)], [(some (cellsR b_arg4 37 [vI m1]) : Option Res), (some (cellsR bb_arg5 25 [.pointer (some ⟨b_arg5, 0, none⟩)]) : Option Res), (some (cellsR b_arg5 113 [varg51, varg52]) : Option Res), (some (rowsX u8S true varg52 vsarg51 arg5.b none) : Option Res), (some (cellsR b_arg6 3 [vI (wi (m2 + (1 : Int)))]) : Option Res), (some (cellsR b_arg7 4 [vB m3]) : Option Res), (some (cellsR b_arg8 156 [.func (.func 84) #[] #[.pointer (some ⟨b_arg4, 0, none⟩), .pointer (some ⟨bb_arg5, 0, none⟩), .pointer (some ⟨b_arg6, 0, none⟩), .pointer (some ⟨b_arg7, 0, none⟩), .pointer (some ⟨b_arg8, 0, none⟩), .pointer (some ⟨b_arg9, 0, none⟩)]]) : Option Res), (some (cellsR b_arg9 41 [v1]) : Option Res), (some (rowS SegS v1 l1) : Option Res), (some (mapR b1 .i64 (fun x : Int => x) vB (mput k1 true map1)) : Option Res), (some (cellsR b2 36 [vU64 read2.1.Addr, vU32 read2.1.Len, vU16 read2.1.Flags, vU16 read2.1.Next]) : Option Res), (bif L 8 then some (rowS SegS v3 [made1]) else none : Option Res)], [Fact.sl RegionS varg51 arg5.l]⟩ a w) [([], []), ([], [2, 7, 8]), ([1], [7, 8]), ([], [4, 7, 8]), ([3], [7, 8]), ([], [6, 7, 8]), ([5], [7, 8]), ([1, 2, 3, 4, 5, 6], [8]), ([1, 2, 3, 4, 5, 6, 7], [])] rfl (by kernel_rfl) ?_ (steps_cons ?_ (steps_cons ?_ (steps_cons ?_ (steps_cons ?_ (steps_cons ?_ (steps_cons ?_ (steps_cons ?_ (steps_cons ?_ (steps_cons ?_ (steps_nil)))))))))) ?_
      ·intro a w hs
       exact ⟨undef, hs.startF [87, 88, 89, 90, 91, 92, 93, 94, 95] [0, 1, 2, 3, 4, 5, 6, 7, 8, 9, 10, 11] [0] rfl rfl rfl rfl⟩
      ·intro L a w hv K Q hK
       obtain ⟨v3, hs⟩ := hv
       refine wpOp_go rfl rfl hs (OpT_loadC rfl rfl rfl rfl tyF41 (i := 7) rfl rfl) ?_
       rintro _ rfl a' w' hs'
       exact hK a' w' ⟨v3, hs'.putF (i := 11) rfl [0, 1, 2, 3, 4, 5, 6, 7, 8, 9, 10, 11] [0] rfl rfl rfl rfl⟩
      ·intro L a w hv K Q hK
       obtain ⟨v3, hs⟩ := hv
       refine wpOp_go rfl rfl hs (OpT_fieldC rfl rfl rfl rfl fldF36x0) ?_
       rintro _ rfl a' w' hs'
       exact hK a' w' ⟨v3, hs'.putF (i := 12) rfl [0, 1, 2, 3, 4, 5, 6, 7, 8, 9, 10, 11] [0] rfl rfl rfl rfl⟩
      ·intro L a w hv K Q hK
       obtain ⟨v3, hs⟩ := hv
       refine wpOp_go rfl rfl hs (OpT_loadC rfl rfl rfl rfl tyF27 (i := 10) rfl rfl) ?_
       rintro _ rfl a' w' hs'
       exact hK a' w' ⟨v3, hs'.putF (i := 13) rfl [0, 1, 2, 3, 4, 5, 6, 7, 8, 9, 10, 11] [0] rfl rfl rfl rfl⟩
      ·intro L a w hv K Q hK
       obtain ⟨v3, hs⟩ := hv
       refine wpOp_go rfl rfl hs (OpT_fieldC rfl rfl rfl rfl fldF36x1) ?_
       rintro _ rfl a' w' hs'
       exact hK a' w' ⟨v3, hs'.putF (i := 14) rfl [0, 1, 2, 3, 4, 5, 6, 7, 8, 9, 10, 11] [0] rfl rfl rfl rfl⟩
      ·intro L a w hv K Q hK
       obtain ⟨v3, hs⟩ := hv
       refine wpOp_go rfl rfl hs (OpT_loadC rfl rfl rfl rfl tyF33 (i := 10) rfl rfl) ?_
       rintro _ rfl a' w' hs'
       exact hK a' w' ⟨v3, hs'.putF (i := 15) rfl [0, 1, 2, 3, 4, 5, 6, 7, 8, 9, 10, 11] [0] rfl rfl rfl rfl⟩
      ·intro L a w hv K Q hK
       obtain ⟨v3, hs⟩ := hv
       refine wpOp_go rfl rfl hs (OpT_fieldC rfl rfl rfl rfl fldF36x2) ?_
       rintro _ rfl a' w' hs'
       exact hK a' w' ⟨v3, hs'.putF (i := 16) rfl [0, 1, 2, 3, 4, 5, 6, 7, 8, 9, 10, 11] [0] rfl rfl rfl rfl⟩
      ·intro L a w hv K Q hK
       obtain ⟨v3, hs⟩ := hv
       refine wpOp_go rfl rfl hs (OpT_loadC rfl rfl rfl rfl tyF34 (i := 10) rfl rfl) ?_
       rintro _ rfl a' w' hs'
       exact hK a' w' ⟨v3, hs'.putF (i := 17) rfl [0, 1, 2, 3, 4, 5, 6, 7, 8, 9, 10, 11] [0] rfl rfl rfl rfl⟩
      ·intro L a w hv K Q hK
       obtain ⟨v3, hs⟩ := hv
       refine wpOp_go rfl rfl hs (OpT_call (w_walk_made hx3) [] [] rfl rfl rfl rfl rfl callee87 rfl rfl rfl rfl) ?_
       rintro _ ⟨_, _, _, ⟨rfl, rfl, rfl⟩, rfl⟩ a' w' hs'
       exact hK a' w' ⟨v3, hs'.putF (i := 18) rfl [0, 1, 2, 3, 4, 5, 6, 7, 8, 9, 10, 11] [0] rfl rfl rfl rfl⟩
      ·intro L a w hv K Q hK
       obtain ⟨v3, hs⟩ := hv
       refine wpOp_go rfl rfl hs (OpT_buildSlice (S := SegS) (xs := [made1]) (css := [[vU64 made1.At, vU32 made1.Len, vB made1.Write]]) (cs := [vU64 made1.At, vU32 made1.Len, vB made1.Write]) (e := 46) rfl rfl rfl rfl (bldF slF41 (by decide) (by kernel_rfl)) rfl rfl rfl rfl (rel_plainD (S := SegS) (xs := [made1]) (css := [[vU64 made1.At, vU32 made1.Len, vB made1.Write]]) rfl rfl)) ?_
       rintro _ ⟨v3', rfl⟩ a' w' hs'
       exact hK a' w' ⟨v3', hs'.putF (i := 19) rfl [0, 1, 2, 3, 4, 5, 6, 7, 8, 9, 10, 12] [0] rfl rfl rfl rfl⟩
      ·intro L a w hL hv
       rw [allTrue hL] at hv
       obtain ⟨v3, hs⟩ := hv
       refine (show TA _ _ _ 9 ⟨[(0, some (vU64 atp0)), (1, some (vI size)), (3, some (vB true)), (4, some (.pointer (some ⟨b_arg4, 0, none⟩))), (5, some (.pointer (some ⟨bb_arg5, 0, none⟩))), (6, some (.pointer (some ⟨b_arg6, 0, none⟩))), (7, some (.pointer (some ⟨b_arg7, 0, none⟩))), (8, some (.pointer (some ⟨b_arg8, 0, none⟩))), (9, some (.pointer (some ⟨b_arg9, 0, none⟩))), (14, some (.map (some b1))), (17, some (.pointer (some ⟨b2, 0, none⟩))), (87, some (v1)), (95, some (v3))], [some (cellsR b_arg4 37 [vI m1]), some (cellsR bb_arg5 25 [.pointer (some ⟨b_arg5, 0, none⟩)]), some (cellsR b_arg5 113 [varg51, varg52]), some (rowsX u8S true varg52 vsarg51 arg5.b none), some (cellsR b_arg6 3 [vI (wi (m2 + (1 : Int)))]), some (cellsR b_arg7 4 [vB m3]), some (cellsR b_arg8 156 [.func (.func 84) #[] #[.pointer (some ⟨b_arg4, 0, none⟩), .pointer (some ⟨bb_arg5, 0, none⟩), .pointer (some ⟨b_arg6, 0, none⟩), .pointer (some ⟨b_arg7, 0, none⟩), .pointer (some ⟨b_arg8, 0, none⟩), .pointer (some ⟨b_arg9, 0, none⟩)]]), some (cellsR b_arg9 41 [v1]), some (rowS SegS v1 l1), some (mapR b1 .i64 (fun x : Int => x) vB (mput k1 true map1)), some (cellsR b2 36 [vU64 read2.1.Addr, vU32 read2.1.Len, vU16 read2.1.Flags, vU16 read2.1.Next]), some (rowS SegS v3 [made1])], [Fact.sl RegionS varg51 arg5.l]⟩ from ?_) a w (hs.wkS [0, 1, 3, 4, 5, 6, 7, 8, 9, 14, 17, 87, 95] [0, 1, 2, 3, 4, 5, 6, 7, 8, 9, 10, 11] [0] rfl rfl rfl rfl)
       clear hs hL
       obtain ⟨hc1, h⟩ := chk_e h
       refine TA_ex htb (by kernel_rfl) rfl rfl (OpT_appendB (S := SegS) rfl rfl rfl rfl rfl rfl slF41 (i := 8) (j := 11) rfl rfl hc1) fun v4 => ?_
       refine TA_step htb (by kernel_rfl) rfl rfl (OpT_storeV (cs' := [v4]) rfl rfl rfl rfl tyF41 (i := 7) rfl (is_row (i := 8) rfl) rfl rfl) ?_
       refine TA_end rfl ?_
       refine Tk_wkS (fr' := [(0, some (vU64 atp0)), (1, some (vI size)), (3, some (vB true)), (4, some (.pointer (some ⟨b_arg4, 0, none⟩))), (5, some (.pointer (some ⟨bb_arg5, 0, none⟩))), (6, some (.pointer (some ⟨b_arg6, 0, none⟩))), (7, some (.pointer (some ⟨b_arg7, 0, none⟩))), (8, some (.pointer (some ⟨b_arg8, 0, none⟩))), (9, some (.pointer (some ⟨b_arg9, 0, none⟩))), (14, some (.map (some b1))), (17, some (.pointer (some ⟨b2, 0, none⟩)))]) (own' := [some (cellsR b_arg4 37 [vI m1]), some (cellsR bb_arg5 25 [.pointer (some ⟨b_arg5, 0, none⟩)]), some (cellsR b_arg5 113 [varg51, varg52]), some (rowsX u8S true varg52 vsarg51 arg5.b none), some (cellsR b_arg6 3 [vI (wi (m2 + (1 : Int)))]), some (cellsR b_arg7 4 [vB m3]), some (cellsR b_arg8 156 [.func (.func 84) #[] #[.pointer (some ⟨b_arg4, 0, none⟩), .pointer (some ⟨bb_arg5, 0, none⟩), .pointer (some ⟨b_arg6, 0, none⟩), .pointer (some ⟨b_arg7, 0, none⟩), .pointer (some ⟨b_arg8, 0, none⟩), .pointer (some ⟨b_arg9, 0, none⟩)]]), some (cellsR b_arg9 41 [v4]), some (rowS SegS v4 (l1 ++ [made1])), some (mapR b1 .i64 (fun x : Int => x) vB (mput k1 true map1)), some (cellsR b2 36 [vU64 read2.1.Addr, vU32 read2.1.Len, vU16 read2.1.Flags, vU16 read2.1.Next])]) (shr' := [Fact.sl RegionS varg51 arg5.l]) [0, 1, 3, 4, 5, 6, 7, 8, 9, 14, 17] [0, 1, 2, 3, 4, 5, 6, 7, 8, 9, 10] [0] rfl rfl rfl rfl ?_
       refine Tk_seq (Tk_seq (Tk_region (Tops_step rfl (OpT_fieldC rfl rfl rfl rfl fldF36x2) ?_)))
       refine Tops_step rfl (OpT_loadC rfl rfl rfl rfl tyF34 (i := 10) rfl rfl) ?_
       refine Tops_step rfl (OpT_bin rfl rfl rfl rfl rfl (bin_and_u16 (a := read2.1.Flags) (b := (1 : UInt16)))) ?_
       refine Tops_step rfl (OpT_bin rfl rfl rfl rfl rfl (bin_eql_u16 (a := read2.1.Flags &&& (1 : UInt16)) (b := (0 : UInt16)))) ?_
       refine Tops_nil (Tk_wkS (fr' := [(0, some (vU64 atp0)), (1, some (vI size)), (3, some (vB true)), (4, some (.pointer (some ⟨b_arg4, 0, none⟩))), (5, some (.pointer (some ⟨bb_arg5, 0, none⟩))), (6, some (.pointer (some ⟨b_arg6, 0, none⟩))), (7, some (.pointer (some ⟨b_arg7, 0, none⟩))), (8, some (.pointer (some ⟨b_arg8, 0, none⟩))), (9, some (.pointer (some ⟨b_arg9, 0, none⟩))), (14, some (.map (some b1))), (17, some (.pointer (some ⟨b2, 0, none⟩))), (100, some (vB ((read2.1.Flags &&& (1 : UInt16)) == (0 : UInt16))))]) (own' := [some (cellsR b_arg4 37 [vI m1]), some (cellsR bb_arg5 25 [.pointer (some ⟨b_arg5, 0, none⟩)]), some (cellsR b_arg5 113 [varg51, varg52]), some (rowsX u8S true varg52 vsarg51 arg5.b none), some (cellsR b_arg6 3 [vI (wi (m2 + (1 : Int)))]), some (cellsR b_arg7 4 [vB m3]), some (cellsR b_arg8 156 [.func (.func 84) #[] #[.pointer (some ⟨b_arg4, 0, none⟩), .pointer (some ⟨bb_arg5, 0, none⟩), .pointer (some ⟨b_arg6, 0, none⟩), .pointer (some ⟨b_arg7, 0, none⟩), .pointer (some ⟨b_arg8, 0, none⟩), .pointer (some ⟨b_arg9, 0, none⟩)]]), some (cellsR b_arg9 41 [v4]), some (rowS SegS v4 (l1 ++ [made1])), some (mapR b1 .i64 (fun x : Int => x) vB (mput k1 true map1)), some (cellsR b2 36 [vU64 read2.1.Addr, vU32 read2.1.Len, vU16 read2.1.Flags, vU16 read2.1.Next])]) (shr' := [Fact.sl RegionS varg51 arg5.l]) [0, 1, 3, 4, 5, 6, 7, 8, 9, 14, 17, 100] [0, 1, 2, 3, 4, 5, 6, 7, 8, 9, 10] [0] rfl rfl rfl rfl ?_)
       rcases Bool.eq_false_or_eq_true ((read2.1.Flags &&& (1 : UInt16)) == (0 : UInt16)) with hg6 | hg6
       ·replace h := br_t hg6 h
        refine Tk_condT (congrArg (fun b => some (Value.bool b)) hg6) ?_
        obtain rfl := Option.some.inj h
        exact Tk_retV rfl rfl (resA (vs := []) rfl trivial) [0, 1, 2, 3, 4, 5, 6, 7, 8] [] rfl rfl rfl ⟨v4, rfl, rfl, rfl⟩
       ·replace h := br_f hg6 h
        refine Tk_condF (congrArg (fun b => some (Value.bool b)) hg6) ?_
        refine Tk_skip (Tk_region (Tops_step rfl (OpT_fieldC rfl rfl rfl rfl fldF36x3) ?_))
        refine Tops_step rfl (OpT_loadC rfl rfl rfl rfl tyF34 (i := 10) rfl rfl) ?_
        refine Tops_step rfl (OpT_cnv rfl rfl rfl rfl (cnv_u16_i (n := read2.1.Next) Try.underlying34 Try.underlying3)) ?_
        refine Tops_step rfl (OpT_assign rfl rfl rfl rfl) ?_
        refine Tops_nil (Tk_wkS (fr' := [(0, some (vU64 atp0)), (1, some (vI size)), (3, some (vB true)), (4, some (.pointer (some ⟨b_arg4, 0, none⟩))), (5, some (.pointer (some ⟨bb_arg5, 0, none⟩))), (6, some (.pointer (some ⟨b_arg6, 0, none⟩))), (7, some (.pointer (some ⟨b_arg7, 0, none⟩))), (8, some (.pointer (some ⟨b_arg8, 0, none⟩))), (9, some (.pointer (some ⟨b_arg9, 0, none⟩))), (14, some (.map (some b1))), (2, some (vI (i16 read2.1.Next)))]) (own' := [some (cellsR b_arg4 37 [vI m1]), some (cellsR bb_arg5 25 [.pointer (some ⟨b_arg5, 0, none⟩)]), some (cellsR b_arg5 113 [varg51, varg52]), some (rowsX u8S true varg52 vsarg51 arg5.b none), some (cellsR b_arg6 3 [vI (wi (m2 + (1 : Int)))]), some (cellsR b_arg7 4 [vB m3]), some (cellsR b_arg8 156 [.func (.func 84) #[] #[.pointer (some ⟨b_arg4, 0, none⟩), .pointer (some ⟨bb_arg5, 0, none⟩), .pointer (some ⟨b_arg6, 0, none⟩), .pointer (some ⟨b_arg7, 0, none⟩), .pointer (some ⟨b_arg8, 0, none⟩), .pointer (some ⟨b_arg9, 0, none⟩)]]), some (cellsR b_arg9 41 [v4]), some (rowS SegS v4 (l1 ++ [made1])), some (mapR b1 .i64 (fun x : Int => x) vB (mput k1 true map1))]) (shr' := [Fact.sl RegionS varg51 arg5.l]) [0, 1, 3, 4, 5, 6, 7, 8, 9, 14, 2] [0, 1, 2, 3, 4, 5, 6, 7, 8, 9] [0] rfl rfl rfl rfl ?_)
        refine Tk_blk ?_
        exact Tk_backS (i16 read2.1.Next, m1, wi (m2 + (1 : Int)), m3, l1 ++ [made1], mput k1 true map1, v4) h [0, 1, 2, 3, 4, 5, 6, 7, 8, 9, 14] [0, 1, 2, 3, 4, 5, 6, 7, 8, 9] [0] rfl rfl rfl rfl rfl

set_option maxRecDepth 100000 in
set_option maxHeartbeats 4000000 in
theorem w_walk_split_1cf3 {atp0 : UInt64} {size : Int} {kp2 : Int} {arg4 : Int} {arg5 : gmem_Mem} {arg6 : Int} {arg7 : Bool} {arg9 : List Seg} {b_arg4 : Nat} {b_arg5 : Nat} {varg51 : Value} {varg52 : Value} {vsarg51 : List Value} {bb_arg5 : Nat} {b_arg6 : Nat} {b_arg7 : Nat} {b_arg8 : Nat} {b_arg9 : Nat} {varg91 : Value} {r : (Int × Int × Bool × (List Seg))} (h : walk_split_1cf3 atp0 size kp2 arg4 arg5 arg6 arg7 arg9 = some r) :
  Ctr Try.prog 84 #[vU64 atp0, vI size, vI kp2, vB false, .pointer (some ⟨b_arg4, 0, none⟩), .pointer (some ⟨bb_arg5, 0, none⟩), .pointer (some ⟨b_arg6, 0, none⟩), .pointer (some ⟨b_arg7, 0, none⟩), .pointer (some ⟨b_arg8, 0, none⟩), .pointer (some ⟨b_arg9, 0, none⟩)] [(cellsR b_arg4 37 [vI arg4]), (cellsR bb_arg5 25 [.pointer (some ⟨b_arg5, 0, none⟩)]), (cellsR b_arg5 113 [varg51, varg52]), (rowsX u8S true varg52 vsarg51 arg5.b none), (cellsR b_arg6 3 [vI arg6]), (cellsR b_arg7 4 [vB arg7]), (cellsR b_arg8 156 [.func (.func 84) #[] #[.pointer (some ⟨b_arg4, 0, none⟩), .pointer (some ⟨bb_arg5, 0, none⟩), .pointer (some ⟨b_arg6, 0, none⟩), .pointer (some ⟨b_arg7, 0, none⟩), .pointer (some ⟨b_arg8, 0, none⟩), .pointer (some ⟨b_arg9, 0, none⟩)]]), (cellsR b_arg9 41 [varg91]), (rowS SegS varg91 arg9)] [Fact.sl RegionS varg51 arg5.l]
   (fun rv own shr => ∃ (w1 : Value), rv = .tuple #[] ∧ own = [(cellsR b_arg4 37 [vI r.1]), (cellsR bb_arg5 25 [.pointer (some ⟨b_arg5, 0, none⟩)]), (cellsR b_arg5 113 [varg51, varg52]), (rowsX u8S true varg52 vsarg51 arg5.b none), (cellsR b_arg6 3 [vI r.2.1]), (cellsR b_arg7 4 [vB r.2.2.1]), (cellsR b_arg8 156 [.func (.func 84) #[] #[.pointer (some ⟨b_arg4, 0, none⟩), .pointer (some ⟨bb_arg5, 0, none⟩), .pointer (some ⟨b_arg6, 0, none⟩), .pointer (some ⟨b_arg7, 0, none⟩), .pointer (some ⟨b_arg8, 0, none⟩), .pointer (some ⟨b_arg9, 0, none⟩)]]), (cellsR b_arg9 41 [w1]), (rowS SegS w1 r.2.2.2)] ∧ shr = []) := by
 unfold walk_split_1cf3 at h
 refine Ctr.mk (args := [vU64 atp0, vI size, vI kp2, vB false, .pointer (some ⟨b_arg4, 0, none⟩), .pointer (some ⟨bb_arg5, 0, none⟩), .pointer (some ⟨b_arg6, 0, none⟩), .pointer (some ⟨b_arg7, 0, none⟩), .pointer (some ⟨b_arg8, 0, none⟩), .pointer (some ⟨b_arg9, 0, none⟩)]) Try.func84 rfl rfl (fun R0 w0 B => ?_)
 refine Tk_seq (Tk_region (Tops_ex rfl (OpT_makeMap .i64 (fun x : Int => x) vB rfl rfl rfl) fun b1 => ?_))
 refine Tops_step rfl (OpT_assign rfl rfl rfl rfl) ?_
 refine Tops_nil (Tk_wkS (fr' := [(0, some (vU64 atp0)), (1, some (vI size)), (2, some (vI kp2)), (3, some (vB false)), (4, some (.pointer (some ⟨b_arg4, 0, none⟩))), (5, some (.pointer (some ⟨bb_arg5, 0, none⟩))), (6, some (.pointer (some ⟨b_arg6, 0, none⟩))), (7, some (.pointer (some ⟨b_arg7, 0, none⟩))), (8, some (.pointer (some ⟨b_arg8, 0, none⟩))), (9, some (.pointer (some ⟨b_arg9, 0, none⟩))), (14, some (.map (some b1)))]) (own' := [some (cellsR b_arg4 37 [vI arg4]), some (cellsR bb_arg5 25 [.pointer (some ⟨b_arg5, 0, none⟩)]), some (cellsR b_arg5 113 [varg51, varg52]), some (rowsX u8S true varg52 vsarg51 arg5.b none), some (cellsR b_arg6 3 [vI arg6]), some (cellsR b_arg7 4 [vB arg7]), some (cellsR b_arg8 156 [.func (.func 84) #[] #[.pointer (some ⟨b_arg4, 0, none⟩), .pointer (some ⟨bb_arg5, 0, none⟩), .pointer (some ⟨b_arg6, 0, none⟩), .pointer (some ⟨b_arg7, 0, none⟩), .pointer (some ⟨b_arg8, 0, none⟩), .pointer (some ⟨b_arg9, 0, none⟩)]]), some (cellsR b_arg9 41 [varg91]), some (rowS SegS varg91 arg9), some (mapR b1 .i64 (fun x : Int => x) vB ([] : List (Int × Bool)))]) (shr' := [Fact.sl RegionS varg51 arg5.l]) [0, 1, 2, 3, 4, 5, 6, 7, 8, 9, 14] [0, 1, 2, 3, 4, 5, 6, 7, 8, 9] [0] rfl rfl rfl rfl ?_)
 refine Tk_block (Tk_loopS (σ := Int × Int × Int × Bool × (List Seg) × (List (Int × Bool)) × Value) [0, 1, 2, 3, 4, 5, 6, 7, 8, 9, 14] [0, 1, 2, 3, 4, 5, 6, 7, 8, 9] [0] (fun s => ⟨[(0, some (vU64 atp0)), (1, some (vI size)), (2, some (vI s.1)), (3, some (vB false)), (4, some (.pointer (some ⟨b_arg4, 0, none⟩))), (5, some (.pointer (some ⟨bb_arg5, 0, none⟩))), (6, some (.pointer (some ⟨b_arg6, 0, none⟩))), (7, some (.pointer (some ⟨b_arg7, 0, none⟩))), (8, some (.pointer (some ⟨b_arg8, 0, none⟩))), (9, some (.pointer (some ⟨b_arg9, 0, none⟩))), (14, some (.map (some b1)))], [some (cellsR b_arg4 37 [vI s.2.1]), some (cellsR bb_arg5 25 [.pointer (some ⟨b_arg5, 0, none⟩)]), some (cellsR b_arg5 113 [varg51, varg52]), some (rowsX u8S true varg52 vsarg51 arg5.b none), some (cellsR b_arg6 3 [vI s.2.2.1]), some (cellsR b_arg7 4 [vB s.2.2.2.1]), some (cellsR b_arg8 156 [.func (.func 84) #[] #[.pointer (some ⟨b_arg4, 0, none⟩), .pointer (some ⟨bb_arg5, 0, none⟩), .pointer (some ⟨b_arg6, 0, none⟩), .pointer (some ⟨b_arg7, 0, none⟩), .pointer (some ⟨b_arg8, 0, none⟩), .pointer (some ⟨b_arg9, 0, none⟩)]]), some (cellsR b_arg9 41 [s.2.2.2.2.2.2]), some (rowS SegS s.2.2.2.2.2.2 s.2.2.2.2.1), some (mapR b1 .i64 (fun x : Int => x) vB s.2.2.2.2.2.1)], [Fact.sl RegionS varg51 arg5.l]⟩) (fun nf1 s => walk_split_1cf3L1 atp0 size arg5 nf1 s.1 s.2.1 s.2.2.1 s.2.2.2.1 s.2.2.2.2.1 s.2.2.2.2.2.1 = some r) fuel (kp2, arg4, arg6, arg7, arg9, ([] : List (Int × Bool)), varg91) h rfl rfl rfl rfl rfl (fun s h => by cases h) ?_)
 rintro nf1 ⟨k1, m1, m2, m3, l1, map1, v1⟩ h
 replace h : walk_split_1cf3L1B atp0 size arg5 (walk_split_1cf3L1 atp0 size arg5 nf1) k1 m1 m2 m3 l1 map1 = some r := h
 unfold walk_split_1cf3L1B at h
 refine Tk_block (Tk_seq (Tk_seq (Tk_region (Tops_step rfl (OpT_move rfl rfl rfl rfl) ?_))))
 refine Tops_step rfl (OpT_move rfl rfl rfl rfl) ?_
 refine Tops_step rfl (OpT_lookup keyI (V := vB) (kx := k1) (z := false) rfl rfl rfl rfl rfl Try.underlying157 Try.underlying3 tyZ4 (i := 9) rfl) ?_
 refine Tops_step rfl (OpT_move rfl rfl rfl rfl) ?_
 rcases Bool.eq_false_or_eq_true (mget false k1 map1) with hg1 | hg1
 ·replace h := br_t hg1 h
  refine Tops_no rfl rfl (congrArg (fun b => some (Value.bool b)) hg1) rfl rfl ?_
  refine Tops_no rfl rfl (congrArg (fun b => some (Value.bool b)) hg1) rfl rfl ?_
  refine Tops_step rfl (OpT_pickT rfl rfl rfl (congrArg (fun b => some (Value.bool b)) hg1) rfl) ?_
  refine Tops_step rfl (OpT_move rfl rfl rfl rfl) ?_
  refine Tops_no rfl rfl rfl rfl rfl ?_
  refine Tops_no rfl rfl rfl rfl rfl ?_
  refine Tops_no rfl rfl rfl rfl rfl ?_
  refine Tops_step rfl (OpT_pickT rfl rfl rfl rfl rfl) ?_
  refine Tops_nil (Tk_wkS (fr' := [(0, some (vU64 atp0)), (1, some (vI size)), (2, some (vI k1)), (3, some (vB false)), (4, some (.pointer (some ⟨b_arg4, 0, none⟩))), (5, some (.pointer (some ⟨bb_arg5, 0, none⟩))), (6, some (.pointer (some ⟨b_arg6, 0, none⟩))), (7, some (.pointer (some ⟨b_arg7, 0, none⟩))), (8, some (.pointer (some ⟨b_arg8, 0, none⟩))), (9, some (.pointer (some ⟨b_arg9, 0, none⟩))), (14, some (.map (some b1))), (33, some (vB true))]) (own' := [some (cellsR b_arg4 37 [vI m1]), some (cellsR bb_arg5 25 [.pointer (some ⟨b_arg5, 0, none⟩)]), some (cellsR b_arg5 113 [varg51, varg52]), some (rowsX u8S true varg52 vsarg51 arg5.b none), some (cellsR b_arg6 3 [vI m2]), some (cellsR b_arg7 4 [vB m3]), some (cellsR b_arg8 156 [.func (.func 84) #[] #[.pointer (some ⟨b_arg4, 0, none⟩), .pointer (some ⟨bb_arg5, 0, none⟩), .pointer (some ⟨b_arg6, 0, none⟩), .pointer (some ⟨b_arg7, 0, none⟩), .pointer (some ⟨b_arg8, 0, none⟩), .pointer (some ⟨b_arg9, 0, none⟩)]]), some (cellsR b_arg9 41 [v1]), some (rowS SegS v1 l1), some (mapR b1 .i64 (fun x : Int => x) vB map1)]) (shr' := [Fact.sl RegionS varg51 arg5.l]) [0, 1, 2, 3, 4, 5, 6, 7, 8, 9, 14, 33] [0, 1, 2, 3, 4, 5, 6, 7, 8, 9] [0] rfl rfl rfl rfl ?_)
  refine Tk_condT rfl ?_
  refine Tk_seq (Tk_region (Tops_step rfl (OpT_storeC (cs' := [vI (4 : Int)]) rfl rfl rfl rfl tyF37 (i := 0) rfl rfl rfl (one_of rfl) rfl) ?_))
  refine Tops_nil (Tk_wkS (fr' := []) (own' := [some (cellsR b_arg4 37 [vI (4 : Int)]), some (cellsR bb_arg5 25 [.pointer (some ⟨b_arg5, 0, none⟩)]), some (cellsR b_arg5 113 [varg51, varg52]), some (rowsX u8S true varg52 vsarg51 arg5.b none), some (cellsR b_arg6 3 [vI m2]), some (cellsR b_arg7 4 [vB m3]), some (cellsR b_arg8 156 [.func (.func 84) #[] #[.pointer (some ⟨b_arg4, 0, none⟩), .pointer (some ⟨bb_arg5, 0, none⟩), .pointer (some ⟨b_arg6, 0, none⟩), .pointer (some ⟨b_arg7, 0, none⟩), .pointer (some ⟨b_arg8, 0, none⟩), .pointer (some ⟨b_arg9, 0, none⟩)]]), some (cellsR b_arg9 41 [v1]), some (rowS SegS v1 l1)]) (shr' := [Fact.sl RegionS varg51 arg5.l]) [] [0, 1, 2, 3, 4, 5, 6, 7, 8] [0] rfl rfl rfl rfl ?_)
  obtain rfl := Option.some.inj h
  exact Tk_retV rfl rfl (resA (vs := []) rfl trivial) [0, 1, 2, 3, 4, 5, 6, 7, 8] [] rfl rfl rfl ⟨v1, rfl, rfl, rfl⟩
 ·replace h := br_f hg1 h
  refine Tops_yes rfl rfl (congrArg (fun b => some (Value.bool b)) hg1) (OpT_move rfl rfl rfl rfl) ?_
  rintro _ rfl
  refine Tops_yes rfl rfl (congrArg (fun b => some (Value.bool b)) hg1) (OpT_bin rfl rfl rfl rfl rfl (bin_lss_i (a := k1) (b := (0 : Int)))) ?_
  rintro _ rfl
  refine Tops_step rfl (OpT_pickF rfl rfl rfl (congrArg (fun b => some (Value.bool b)) hg1) rfl) ?_
  refine Tops_step rfl (OpT_move rfl rfl rfl rfl) ?_
  rcases Bool.eq_false_or_eq_true (decide (k1 < (0 : Int))) with hg2 | hg2
  ·replace h := br_t hg2 h
   refine Tops_no rfl rfl (congrArg (fun b => some (Value.bool b)) hg2) rfl rfl ?_
   refine Tops_no rfl rfl (congrArg (fun b => some (Value.bool b)) hg2) rfl rfl ?_
   refine Tops_no rfl rfl (congrArg (fun b => some (Value.bool b)) hg2) rfl rfl ?_
   refine Tops_step rfl (OpT_pickT rfl rfl rfl (congrArg (fun b => some (Value.bool b)) hg2) rfl) ?_
   refine Tops_nil (Tk_wkS (fr' := [(0, some (vU64 atp0)), (1, some (vI size)), (2, some (vI k1)), (3, some (vB false)), (4, some (.pointer (some ⟨b_arg4, 0, none⟩))), (5, some (.pointer (some ⟨bb_arg5, 0, none⟩))), (6, some (.pointer (some ⟨b_arg6, 0, none⟩))), (7, some (.pointer (some ⟨b_arg7, 0, none⟩))), (8, some (.pointer (some ⟨b_arg8, 0, none⟩))), (9, some (.pointer (some ⟨b_arg9, 0, none⟩))), (14, some (.map (some b1))), (33, some (vB true))]) (own' := [some (cellsR b_arg4 37 [vI m1]), some (cellsR bb_arg5 25 [.pointer (some ⟨b_arg5, 0, none⟩)]), some (cellsR b_arg5 113 [varg51, varg52]), some (rowsX u8S true varg52 vsarg51 arg5.b none), some (cellsR b_arg6 3 [vI m2]), some (cellsR b_arg7 4 [vB m3]), some (cellsR b_arg8 156 [.func (.func 84) #[] #[.pointer (some ⟨b_arg4, 0, none⟩), .pointer (some ⟨bb_arg5, 0, none⟩), .pointer (some ⟨b_arg6, 0, none⟩), .pointer (some ⟨b_arg7, 0, none⟩), .pointer (some ⟨b_arg8, 0, none⟩), .pointer (some ⟨b_arg9, 0, none⟩)]]), some (cellsR b_arg9 41 [v1]), some (rowS SegS v1 l1), some (mapR b1 .i64 (fun x : Int => x) vB map1)]) (shr' := [Fact.sl RegionS varg51 arg5.l]) [0, 1, 2, 3, 4, 5, 6, 7, 8, 9, 14, 33] [0, 1, 2, 3, 4, 5, 6, 7, 8, 9] [0] rfl rfl rfl rfl ?_)
   refine Tk_condT rfl ?_
   refine Tk_seq (Tk_region (Tops_step rfl (OpT_storeC (cs' := [vI (4 : Int)]) rfl rfl rfl rfl tyF37 (i := 0) rfl rfl rfl (one_of rfl) rfl) ?_))
   refine Tops_nil (Tk_wkS (fr' := []) (own' := [some (cellsR b_arg4 37 [vI (4 : Int)]), some (cellsR bb_arg5 25 [.pointer (some ⟨b_arg5, 0, none⟩)]), some (cellsR b_arg5 113 [varg51, varg52]), some (rowsX u8S true varg52 vsarg51 arg5.b none), some (cellsR b_arg6 3 [vI m2]), some (cellsR b_arg7 4 [vB m3]), some (cellsR b_arg8 156 [.func (.func 84) #[] #[.pointer (some ⟨b_arg4, 0, none⟩), .pointer (some ⟨bb_arg5, 0, none⟩), .pointer (some ⟨b_arg6, 0, none⟩), .pointer (some ⟨b_arg7, 0, none⟩), .pointer (some ⟨b_arg8, 0, none⟩), .pointer (some ⟨b_arg9, 0, none⟩)]]), some (cellsR b_arg9 41 [v1]), some (rowS SegS v1 l1)]) (shr' := [Fact.sl RegionS varg51 arg5.l]) [] [0, 1, 2, 3, 4, 5, 6, 7, 8] [0] rfl rfl rfl rfl ?_)
   obtain rfl := Option.some.inj h
   exact Tk_retV rfl rfl (resA (vs := []) rfl trivial) [0, 1, 2, 3, 4, 5, 6, 7, 8] [] rfl rfl rfl ⟨v1, rfl, rfl, rfl⟩
  ·replace h := br_f hg2 h
   refine Tops_yes rfl rfl (congrArg (fun b => some (Value.bool b)) hg2) (OpT_move rfl rfl rfl rfl) ?_
   rintro _ rfl
   refine Tops_yes rfl rfl (congrArg (fun b => some (Value.bool b)) hg2) (OpT_move rfl rfl rfl rfl) ?_
   rintro _ rfl
   refine Tops_yes rfl rfl (congrArg (fun b => some (Value.bool b)) hg2) (OpT_bin rfl rfl rfl rfl rfl (bin_geq_i (a := k1) (b := size))) ?_
   rintro _ rfl
   refine Tops_step rfl (OpT_pickF rfl rfl rfl (congrArg (fun b => some (Value.bool b)) hg2) rfl) ?_
   refine Tops_nil (Tk_wkS (fr' := [(0, some (vU64 atp0)), (1, some (vI size)), (2, some (vI k1)), (3, some (vB false)), (4, some (.pointer (some ⟨b_arg4, 0, none⟩))), (5, some (.pointer (some ⟨bb_arg5, 0, none⟩))), (6, some (.pointer (some ⟨b_arg6, 0, none⟩))), (7, some (.pointer (some ⟨b_arg7, 0, none⟩))), (8, some (.pointer (some ⟨b_arg8, 0, none⟩))), (9, some (.pointer (some ⟨b_arg9, 0, none⟩))), (14, some (.map (some b1))), (33, some (vB (decide (k1 ≥ size))))]) (own' := [some (cellsR b_arg4 37 [vI m1]), some (cellsR bb_arg5 25 [.pointer (some ⟨b_arg5, 0, none⟩)]), some (cellsR b_arg5 113 [varg51, varg52]), some (rowsX u8S true varg52 vsarg51 arg5.b none), some (cellsR b_arg6 3 [vI m2]), some (cellsR b_arg7 4 [vB m3]), some (cellsR b_arg8 156 [.func (.func 84) #[] #[.pointer (some ⟨b_arg4, 0, none⟩), .pointer (some ⟨bb_arg5, 0, none⟩), .pointer (some ⟨b_arg6, 0, none⟩), .pointer (some ⟨b_arg7, 0, none⟩), .pointer (some ⟨b_arg8, 0, none⟩), .pointer (some ⟨b_arg9, 0, none⟩)]]), some (cellsR b_arg9 41 [v1]), some (rowS SegS v1 l1), some (mapR b1 .i64 (fun x : Int => x) vB map1)]) (shr' := [Fact.sl RegionS varg51 arg5.l]) [0, 1, 2, 3, 4, 5, 6, 7, 8, 9, 14, 33] [0, 1, 2, 3, 4, 5, 6, 7, 8, 9] [0] rfl rfl rfl rfl ?_)
   rcases Bool.eq_false_or_eq_true (decide (k1 ≥ size)) with hg3 | hg3
   ·replace h := br_t hg3 h
    refine Tk_condT (congrArg (fun b => some (Value.bool b)) hg3) ?_
    refine Tk_seq (Tk_region (Tops_step rfl (OpT_storeC (cs' := [vI (4 : Int)]) rfl rfl rfl rfl tyF37 (i := 0) rfl rfl rfl (one_of rfl) rfl) ?_))
    refine Tops_nil (Tk_wkS (fr' := []) (own' := [some (cellsR b_arg4 37 [vI (4 : Int)]), some (cellsR bb_arg5 25 [.pointer (some ⟨b_arg5, 0, none⟩)]), some (cellsR b_arg5 113 [varg51, varg52]), some (rowsX u8S true varg52 vsarg51 arg5.b none), some (cellsR b_arg6 3 [vI m2]), some (cellsR b_arg7 4 [vB m3]), some (cellsR b_arg8 156 [.func (.func 84) #[] #[.pointer (some ⟨b_arg4, 0, none⟩), .pointer (some ⟨bb_arg5, 0, none⟩), .pointer (some ⟨b_arg6, 0, none⟩), .pointer (some ⟨b_arg7, 0, none⟩), .pointer (some ⟨b_arg8, 0, none⟩), .pointer (some ⟨b_arg9, 0, none⟩)]]), some (cellsR b_arg9 41 [v1]), some (rowS SegS v1 l1)]) (shr' := [Fact.sl RegionS varg51 arg5.l]) [] [0, 1, 2, 3, 4, 5, 6, 7, 8] [0] rfl rfl rfl rfl ?_)
    obtain rfl := Option.some.inj h
    exact Tk_retV rfl rfl (resA (vs := []) rfl trivial) [0, 1, 2, 3, 4, 5, 6, 7, 8] [] rfl rfl rfl ⟨v1, rfl, rfl, rfl⟩
   ·replace h := br_f hg3 h
    refine Tk_condF (congrArg (fun b => some (Value.bool b)) hg3) ?_
    refine Tk_skip (Tk_seq (Tk_region (Tops_step rfl (OpT_move rfl rfl rfl rfl) ?_)))
    refine Tops_step rfl (OpT_move rfl rfl rfl rfl) ?_
    refine Tops_step rfl (OpT_mapUpdate keyI k1 true (V := vB) (z := false) rfl rfl rfl rfl rfl rfl Try.underlying157 Try.underlying3 (i := 9) rfl rfl) ?_
    refine Tops_nil (Tk_wkS (fr' := [(0, some (vU64 atp0)), (1, some (vI size)), (2, some (vI k1)), (3, some (vB false)), (4, some (.pointer (some ⟨b_arg4, 0, none⟩))), (5, some (.pointer (some ⟨bb_arg5, 0, none⟩))), (6, some (.pointer (some ⟨b_arg6, 0, none⟩))), (7, some (.pointer (some ⟨b_arg7, 0, none⟩))), (8, some (.pointer (some ⟨b_arg8, 0, none⟩))), (9, some (.pointer (some ⟨b_arg9, 0, none⟩))), (14, some (.map (some b1)))]) (own' := [some (cellsR b_arg4 37 [vI m1]), some (cellsR bb_arg5 25 [.pointer (some ⟨b_arg5, 0, none⟩)]), some (cellsR b_arg5 113 [varg51, varg52]), some (rowsX u8S true varg52 vsarg51 arg5.b none), some (cellsR b_arg6 3 [vI m2]), some (cellsR b_arg7 4 [vB m3]), some (cellsR b_arg8 156 [.func (.func 84) #[] #[.pointer (some ⟨b_arg4, 0, none⟩), .pointer (some ⟨bb_arg5, 0, none⟩), .pointer (some ⟨b_arg6, 0, none⟩), .pointer (some ⟨b_arg7, 0, none⟩), .pointer (some ⟨b_arg8, 0, none⟩), .pointer (some ⟨b_arg9, 0, none⟩)]]), some (cellsR b_arg9 41 [v1]), some (rowS SegS v1 l1), some (mapR b1 .i64 (fun x : Int => x) vB (mput k1 true map1))]) (shr' := [Fact.sl RegionS varg51 arg5.l]) [0, 1, 2, 3, 4, 5, 6, 7, 8, 9, 14] [0, 1, 2, 3, 4, 5, 6, 7, 8, 9] [0] rfl rfl rfl rfl ?_)
    refine Tk_seq (Tk_region (Tops_step rfl (OpT_loadC rfl rfl rfl rfl tyF25 (i := 1) rfl rfl) ?_))
    refine Tops_step rfl (OpT_move rfl rfl rfl rfl) ?_
    refine Tops_step rfl (OpT_move rfl rfl rfl rfl) ?_
    refine Tops_step rfl (OpT_cnv rfl rfl rfl rfl (cnv_i_u64 (n := k1) Try.underlying3 Try.underlying27)) ?_
    refine Tops_step rfl (OpT_bin rfl rfl rfl rfl rfl (bin_mul_u64 (a := (16 : UInt64)) (b := u64 k1))) ?_
    refine Tops_step rfl (OpT_bin rfl rfl rfl rfl rfl (bin_add_u64 (a := atp0) (b := (16 : UInt64) * (u64 k1)))) ?_
    obtain ⟨read1, hx1, h⟩ := ob_e h
    refine Tops_exP rfl (OpT_callP [0, 1, 10, 11, 4, 5, 6, 7, 8, 9, 12] (w_gmem_Mem_Read hx1) [2, 3] [0] rfl rfl rfl rfl rfl callee82 rfl rfl rfl rfl rfl) ?_
    rintro _ ⟨_, _, _, ⟨v2, rfl, rfl, rfl⟩, rfl⟩
    refine Tops_step rfl (OpT_move rfl rfl rfl rfl) ?_
    refine Tops_step rfl (OpT_extract rfl rfl rfl rfl rfl) ?_
    refine Tops_step rfl (OpT_extract rfl rfl rfl rfl rfl) ?_
    refine Tops_step rfl (OpT_assign rfl rfl rfl rfl) ?_
    refine Tops_step rfl (OpT_assign rfl rfl rfl rfl) ?_
    refine Tops_nil (Tk_wkS (fr' := [(0, some (vU64 atp0)), (1, some (vI size)), (3, some (vB false)), (4, some (.pointer (some ⟨b_arg4, 0, none⟩))), (5, some (.pointer (some ⟨bb_arg5, 0, none⟩))), (6, some (.pointer (some ⟨b_arg6, 0, none⟩))), (7, some (.pointer (some ⟨b_arg7, 0, none⟩))), (8, some (.pointer (some ⟨b_arg8, 0, none⟩))), (9, some (.pointer (some ⟨b_arg9, 0, none⟩))), (14, some (.map (some b1))), (15, some (v2)), (16, some (vI read1.2))]) (own' := [some (cellsR b_arg4 37 [vI m1]), some (cellsR bb_arg5 25 [.pointer (some ⟨b_arg5, 0, none⟩)]), some (cellsR b_arg5 113 [varg51, varg52]), some (rowsX u8S true varg52 vsarg51 arg5.b none), some (cellsR b_arg6 3 [vI m2]), some (cellsR b_arg7 4 [vB m3]), some (cellsR b_arg8 156 [.func (.func 84) #[] #[.pointer (some ⟨b_arg4, 0, none⟩), .pointer (some ⟨bb_arg5, 0, none⟩), .pointer (some ⟨b_arg6, 0, none⟩), .pointer (some ⟨b_arg7, 0, none⟩), .pointer (some ⟨b_arg8, 0, none⟩), .pointer (some ⟨b_arg9, 0, none⟩)]]), some (cellsR b_arg9 41 [v1]), some (rowS SegS v1 l1), some (mapR b1 .i64 (fun x : Int => x) vB (mput k1 true map1)), some (rowS u8S v2 read1.1)]) (shr' := [Fact.sl RegionS varg51 arg5.l]) [0, 1, 3, 4, 5, 6, 7, 8, 9, 14, 15, 16] [0, 1, 2, 3, 4, 5, 6, 7, 8, 9, 10] [0] rfl rfl rfl rfl ?_)
    refine Tk_seq (Tk_seq (Tk_region (Tops_step rfl (OpT_move rfl rfl rfl rfl) ?_)))
    refine Tops_step rfl (OpT_bin rfl rfl rfl rfl rfl (bin_neq_i (a := read1.2) (b := (0 : Int)))) ?_
    refine Tops_nil (Tk_wkS (fr' := [(0, some (vU64 atp0)), (1, some (vI size)), (3, some (vB false)), (4, some (.pointer (some ⟨b_arg4, 0, none⟩))), (5, some (.pointer (some ⟨bb_arg5, 0, none⟩))), (6, some (.pointer (some ⟨b_arg6, 0, none⟩))), (7, some (.pointer (some ⟨b_arg7, 0, none⟩))), (8, some (.pointer (some ⟨b_arg8, 0, none⟩))), (9, some (.pointer (some ⟨b_arg9, 0, none⟩))), (14, some (.map (some b1))), (15, some (v2)), (47, some (vB (read1.2 != (0 : Int))))]) (own' := [some (cellsR b_arg4 37 [vI m1]), some (cellsR bb_arg5 25 [.pointer (some ⟨b_arg5, 0, none⟩)]), some (cellsR b_arg5 113 [varg51, varg52]), some (rowsX u8S true varg52 vsarg51 arg5.b none), some (cellsR b_arg6 3 [vI m2]), some (cellsR b_arg7 4 [vB m3]), some (cellsR b_arg8 156 [.func (.func 84) #[] #[.pointer (some ⟨b_arg4, 0, none⟩), .pointer (some ⟨bb_arg5, 0, none⟩), .pointer (some ⟨b_arg6, 0, none⟩), .pointer (some ⟨b_arg7, 0, none⟩), .pointer (some ⟨b_arg8, 0, none⟩), .pointer (some ⟨b_arg9, 0, none⟩)]]), some (cellsR b_arg9 41 [v1]), some (rowS SegS v1 l1), some (mapR b1 .i64 (fun x : Int => x) vB (mput k1 true map1)), some (rowS u8S v2 read1.1)]) (shr' := [Fact.sl RegionS varg51 arg5.l]) [0, 1, 3, 4, 5, 6, 7, 8, 9, 14, 15, 47] [0, 1, 2, 3, 4, 5, 6, 7, 8, 9, 10] [0] rfl rfl rfl rfl ?_)
    rcases Bool.eq_false_or_eq_true (read1.2 != (0 : Int)) with hg4 | hg4
    ·replace h := br_t hg4 h
     refine Tk_condT (congrArg (fun b => some (Value.bool b)) hg4) ?_
     refine Tk_seq (Tk_region (Tops_step rfl (OpT_storeC (cs' := [vI (5 : Int)]) rfl rfl rfl rfl tyF37 (i := 0) rfl rfl rfl (one_of rfl) rfl) ?_))
     refine Tops_nil (Tk_wkS (fr' := []) (own' := [some (cellsR b_arg4 37 [vI (5 : Int)]), some (cellsR bb_arg5 25 [.pointer (some ⟨b_arg5, 0, none⟩)]), some (cellsR b_arg5 113 [varg51, varg52]), some (rowsX u8S true varg52 vsarg51 arg5.b none), some (cellsR b_arg6 3 [vI m2]), some (cellsR b_arg7 4 [vB m3]), some (cellsR b_arg8 156 [.func (.func 84) #[] #[.pointer (some ⟨b_arg4, 0, none⟩), .pointer (some ⟨bb_arg5, 0, none⟩), .pointer (some ⟨b_arg6, 0, none⟩), .pointer (some ⟨b_arg7, 0, none⟩), .pointer (some ⟨b_arg8, 0, none⟩), .pointer (some ⟨b_arg9, 0, none⟩)]]), some (cellsR b_arg9 41 [v1]), some (rowS SegS v1 l1)]) (shr' := [Fact.sl RegionS varg51 arg5.l]) [] [0, 1, 2, 3, 4, 5, 6, 7, 8] [0] rfl rfl rfl rfl ?_)
     obtain rfl := Option.some.inj h
     exact Tk_retV rfl rfl (resA (vs := []) rfl trivial) [0, 1, 2, 3, 4, 5, 6, 7, 8] [] rfl rfl rfl ⟨v1, rfl, rfl, rfl⟩
    ·replace h := br_f hg4 h
     refine Tk_condF (congrArg (fun b => some (Value.bool b)) hg4) ?_
     refine Tk_skip (Tk_seq (Tk_region (Tops_step rfl (OpT_loadC rfl rfl rfl rfl tyF3 (i := 4) rfl rfl) ?_)))
     refine Tops_step rfl (OpT_bin rfl rfl rfl rfl rfl (bin_add_i (a := m2) (b := (1 : Int)))) ?_
     refine Tops_step rfl (OpT_storeC (cs' := [vI (wi (m2 + (1 : Int)))]) rfl rfl rfl rfl tyF3 (i := 4) rfl rfl rfl (one_of rfl) rfl) ?_
     refine Tops_nil (Tk_wkS (fr' := [(0, some (vU64 atp0)), (1, some (vI size)), (3, some (vB false)), (4, some (.pointer (some ⟨b_arg4, 0, none⟩))), (5, some (.pointer (some ⟨bb_arg5, 0, none⟩))), (6, some (.pointer (some ⟨b_arg6, 0, none⟩))), (7, some (.pointer (some ⟨b_arg7, 0, none⟩))), (8, some (.pointer (some ⟨b_arg8, 0, none⟩))), (9, some (.pointer (some ⟨b_arg9, 0, none⟩))), (14, some (.map (some b1))), (15, some (v2))]) (own' := [some (cellsR b_arg4 37 [vI m1]), some (cellsR bb_arg5 25 [.pointer (some ⟨b_arg5, 0, none⟩)]), some (cellsR b_arg5 113 [varg51, varg52]), some (rowsX u8S true varg52 vsarg51 arg5.b none), some (cellsR b_arg6 3 [vI (wi (m2 + (1 : Int)))]), some (cellsR b_arg7 4 [vB m3]), some (cellsR b_arg8 156 [.func (.func 84) #[] #[.pointer (some ⟨b_arg4, 0, none⟩), .pointer (some ⟨bb_arg5, 0, none⟩), .pointer (some ⟨b_arg6, 0, none⟩), .pointer (some ⟨b_arg7, 0, none⟩), .pointer (some ⟨b_arg8, 0, none⟩), .pointer (some ⟨b_arg9, 0, none⟩)]]), some (cellsR b_arg9 41 [v1]), some (rowS SegS v1 l1), some (mapR b1 .i64 (fun x : Int => x) vB (mput k1 true map1)), some (rowS u8S v2 read1.1)]) (shr' := [Fact.sl RegionS varg51 arg5.l]) [0, 1, 3, 4, 5, 6, 7, 8, 9, 14, 15] [0, 1, 2, 3, 4, 5, 6, 7, 8, 9, 10] [0] rfl rfl rfl rfl ?_)
     refine Tk_seq (Tk_region (Tops_step rfl (OpT_move rfl rfl rfl rfl) ?_))
     obtain ⟨read2, hx2, h⟩ := ob_e h
     refine Tops_exP rfl (OpT_callB [10] [0, 1, 2, 3, 4, 5, 6, 7, 8, 9, 10] (w_desc_Read hx2) [] rfl rfl rfl rfl rfl callee85 rfl rfl rfl rfl rfl rfl (bor_cons (bor_row 10 rfl rfl) bor_nil) (by rintro _ _ _ ⟨rfl, rfl, rfl⟩; exact ⟨rfl, ri_nil⟩)) ?_
     rintro _ ⟨_, _, _, ⟨rfl, rfl, rfl⟩, rfl⟩
     refine Tops_step rfl (OpT_move rfl rfl rfl rfl) ?_
     refine Tops_step rfl (OpT_extract rfl rfl rfl rfl rfl) ?_
     refine Tops_step rfl (OpT_extract rfl rfl rfl rfl rfl) ?_
     refine Tops_ex rfl (OpT_alloc rfl rfl rfl tyZ36) fun b2 => ?_
     refine Tops_step rfl (OpT_storeC (cs' := [vU64 read2.1.Addr, vU32 read2.1.Len, vU16 read2.1.Flags, vU16 read2.1.Next]) rfl rfl rfl rfl tyF36 (i := 11) rfl rfl rfl (one_of rfl) rfl) ?_
     refine Tops_step rfl (OpT_assign rfl rfl rfl rfl) ?_
     refine Tops_nil (Tk_wkS (fr' := [(0, some (vU64 atp0)), (1, some (vI size)), (3, some (vB false)), (4, some (.pointer (some ⟨b_arg4, 0, none⟩))), (5, some (.pointer (some ⟨bb_arg5, 0, none⟩))), (6, some (.pointer (some ⟨b_arg6, 0, none⟩))), (7, some (.pointer (some ⟨b_arg7, 0, none⟩))), (8, some (.pointer (some ⟨b_arg8, 0, none⟩))), (9, some (.pointer (some ⟨b_arg9, 0, none⟩))), (14, some (.map (some b1))), (17, some (.pointer (some ⟨b2, 0, none⟩)))]) (own' := [some (cellsR b_arg4 37 [vI m1]), some (cellsR bb_arg5 25 [.pointer (some ⟨b_arg5, 0, none⟩)]), some (cellsR b_arg5 113 [varg51, varg52]), some (rowsX u8S true varg52 vsarg51 arg5.b none), some (cellsR b_arg6 3 [vI (wi (m2 + (1 : Int)))]), some (cellsR b_arg7 4 [vB m3]), some (cellsR b_arg8 156 [.func (.func 84) #[] #[.pointer (some ⟨b_arg4, 0, none⟩), .pointer (some ⟨bb_arg5, 0, none⟩), .pointer (some ⟨b_arg6, 0, none⟩), .pointer (some ⟨b_arg7, 0, none⟩), .pointer (some ⟨b_arg8, 0, none⟩), .pointer (some ⟨b_arg9, 0, none⟩)]]), some (cellsR b_arg9 41 [v1]), some (rowS SegS v1 l1), some (mapR b1 .i64 (fun x : Int => x) vB (mput k1 true map1)), some (cellsR b2 36 [vU64 read2.1.Addr, vU32 read2.1.Len, vU16 read2.1.Flags, vU16 read2.1.Next])]) (shr' := [Fact.sl RegionS varg51 arg5.l]) [0, 1, 3, 4, 5, 6, 7, 8, 9, 14, 17] [0, 1, 2, 3, 4, 5, 6, 7, 8, 9, 11] [0] rfl rfl rfl rfl ?_)
     refine Tk_seq (Tk_seq (Tk_region (Tops_step rfl (OpT_fieldC rfl rfl rfl rfl fldF36x2) ?_)))
     refine Tops_step rfl (OpT_loadC rfl rfl rfl rfl tyF34 (i := 10) rfl rfl) ?_
     refine Tops_step rfl (OpT_bin rfl rfl rfl rfl rfl (bin_and_u16 (a := read2.1.Flags) (b := (4 : UInt16)))) ?_
     refine Tops_step rfl (OpT_bin rfl rfl rfl rfl rfl (bin_neq_u16 (a := read2.1.Flags &&& (4 : UInt16)) (b := (0 : UInt16)))) ?_
     refine Tops_nil (Tk_wkS (fr' := [(0, some (vU64 atp0)), (1, some (vI size)), (3, some (vB false)), (4, some (.pointer (some ⟨b_arg4, 0, none⟩))), (5, some (.pointer (some ⟨bb_arg5, 0, none⟩))), (6, some (.pointer (some ⟨b_arg6, 0, none⟩))), (7, some (.pointer (some ⟨b_arg7, 0, none⟩))), (8, some (.pointer (some ⟨b_arg8, 0, none⟩))), (9, some (.pointer (some ⟨b_arg9, 0, none⟩))), (14, some (.map (some b1))), (17, some (.pointer (some ⟨b2, 0, none⟩))), (58, some (vB ((read2.1.Flags &&& (4 : UInt16)) != (0 : UInt16))))]) (own' := [some (cellsR b_arg4 37 [vI m1]), some (cellsR bb_arg5 25 [.pointer (some ⟨b_arg5, 0, none⟩)]), some (cellsR b_arg5 113 [varg51, varg52]), some (rowsX u8S true varg52 vsarg51 arg5.b none), some (cellsR b_arg6 3 [vI (wi (m2 + (1 : Int)))]), some (cellsR b_arg7 4 [vB m3]), some (cellsR b_arg8 156 [.func (.func 84) #[] #[.pointer (some ⟨b_arg4, 0, none⟩), .pointer (some ⟨bb_arg5, 0, none⟩), .pointer (some ⟨b_arg6, 0, none⟩), .pointer (some ⟨b_arg7, 0, none⟩), .pointer (some ⟨b_arg8, 0, none⟩), .pointer (some ⟨b_arg9, 0, none⟩)]]), some (cellsR b_arg9 41 [v1]), some (rowS SegS v1 l1), some (mapR b1 .i64 (fun x : Int => x) vB (mput k1 true map1)), some (cellsR b2 36 [vU64 read2.1.Addr, vU32 read2.1.Len, vU16 read2.1.Flags, vU16 read2.1.Next])]) (shr' := [Fact.sl RegionS varg51 arg5.l]) [0, 1, 3, 4, 5, 6, 7, 8, 9, 14, 17, 58] [0, 1, 2, 3, 4, 5, 6, 7, 8, 9, 10] [0] rfl rfl rfl rfl ?_)
     rcases Bool.eq_false_or_eq_true ((read2.1.Flags &&& (4 : UInt16)) != (0 : UInt16)) with hg5 | hg5
     ·replace h := br_t hg5 h
      refine Tk_condT (congrArg (fun b => some (Value.bool b)) hg5) ?_
      refine Tk_seq (Tk_seq (Tk_region (Tops_step rfl (OpT_move rfl rfl rfl rfl) ?_)))
      refine Tops_step rfl (OpT_move rfl rfl rfl rfl) ?_
      refine Tops_yes rfl rfl rfl (OpT_loadC rfl rfl rfl rfl tyF4 (i := 5) rfl rfl) ?_
      rintro _ rfl
      refine Tops_yes rfl rfl rfl (OpT_not rfl rfl rfl rfl) ?_
      rintro _ rfl
      refine Tops_step rfl (OpT_pickF rfl rfl rfl rfl rfl) ?_
      refine Tops_step rfl (OpT_move rfl rfl rfl rfl) ?_
      rcases Bool.eq_false_or_eq_true ((!m3)) with hg6 | hg6
      ·replace h := br_t hg6 h
       refine Tops_no rfl rfl (congrArg (fun b => some (Value.bool b)) hg6) rfl rfl ?_
       refine Tops_no rfl rfl (congrArg (fun b => some (Value.bool b)) hg6) rfl rfl ?_
       refine Tops_no rfl rfl (congrArg (fun b => some (Value.bool b)) hg6) rfl rfl ?_
       refine Tops_no rfl rfl (congrArg (fun b => some (Value.bool b)) hg6) rfl rfl ?_
       refine Tops_step rfl (OpT_pickT rfl rfl rfl (congrArg (fun b => some (Value.bool b)) hg6) rfl) ?_
       refine Tops_nil (Tk_wkS (fr' := [(4, some (.pointer (some ⟨b_arg4, 0, none⟩))), (5, some (.pointer (some ⟨bb_arg5, 0, none⟩))), (8, some (.pointer (some ⟨b_arg8, 0, none⟩))), (17, some (.pointer (some ⟨b2, 0, none⟩))), (69, some (vB true))]) (own' := [some (cellsR b_arg4 37 [vI m1]), some (cellsR bb_arg5 25 [.pointer (some ⟨b_arg5, 0, none⟩)]), some (cellsR b_arg5 113 [varg51, varg52]), some (rowsX u8S true varg52 vsarg51 arg5.b none), some (cellsR b_arg6 3 [vI (wi (m2 + (1 : Int)))]), some (cellsR b_arg7 4 [vB m3]), some (cellsR b_arg8 156 [.func (.func 84) #[] #[.pointer (some ⟨b_arg4, 0, none⟩), .pointer (some ⟨bb_arg5, 0, none⟩), .pointer (some ⟨b_arg6, 0, none⟩), .pointer (some ⟨b_arg7, 0, none⟩), .pointer (some ⟨b_arg8, 0, none⟩), .pointer (some ⟨b_arg9, 0, none⟩)]]), some (cellsR b_arg9 41 [v1]), some (rowS SegS v1 l1), some (cellsR b2 36 [vU64 read2.1.Addr, vU32 read2.1.Len, vU16 read2.1.Flags, vU16 read2.1.Next])]) (shr' := [Fact.sl RegionS varg51 arg5.l]) [4, 5, 8, 17, 69] [0, 1, 2, 3, 4, 5, 6, 7, 8, 10] [0] rfl rfl rfl rfl ?_)
       refine Tk_condT rfl ?_
       refine Tk_seq (Tk_region (Tops_step rfl (OpT_storeC (cs' := [vI (4 : Int)]) rfl rfl rfl rfl tyF37 (i := 0) rfl rfl rfl (one_of rfl) rfl) ?_))
       refine Tops_nil (Tk_wkS (fr' := []) (own' := [some (cellsR b_arg4 37 [vI (4 : Int)]), some (cellsR bb_arg5 25 [.pointer (some ⟨b_arg5, 0, none⟩)]), some (cellsR b_arg5 113 [varg51, varg52]), some (rowsX u8S true varg52 vsarg51 arg5.b none), some (cellsR b_arg6 3 [vI (wi (m2 + (1 : Int)))]), some (cellsR b_arg7 4 [vB m3]), some (cellsR b_arg8 156 [.func (.func 84) #[] #[.pointer (some ⟨b_arg4, 0, none⟩), .pointer (some ⟨bb_arg5, 0, none⟩), .pointer (some ⟨b_arg6, 0, none⟩), .pointer (some ⟨b_arg7, 0, none⟩), .pointer (some ⟨b_arg8, 0, none⟩), .pointer (some ⟨b_arg9, 0, none⟩)]]), some (cellsR b_arg9 41 [v1]), some (rowS SegS v1 l1)]) (shr' := [Fact.sl RegionS varg51 arg5.l]) [] [0, 1, 2, 3, 4, 5, 6, 7, 8] [0] rfl rfl rfl rfl ?_)
       obtain rfl := Option.some.inj h
       exact Tk_retV rfl rfl (resA (vs := []) rfl trivial) [0, 1, 2, 3, 4, 5, 6, 7, 8] [] rfl rfl rfl ⟨v1, rfl, rfl, rfl⟩
      ·replace h := br_f hg6 h
       refine Tops_yes rfl rfl (congrArg (fun b => some (Value.bool b)) hg6) (OpT_fieldC rfl rfl rfl rfl fldF36x2) ?_
       rintro _ rfl
       refine Tops_yes rfl rfl (congrArg (fun b => some (Value.bool b)) hg6) (OpT_loadC rfl rfl rfl rfl tyF34 (i := 10) rfl rfl) ?_
       rintro _ rfl
       refine Tops_yes rfl rfl (congrArg (fun b => some (Value.bool b)) hg6) (OpT_bin rfl rfl rfl rfl rfl (bin_and_u16 (a := read2.1.Flags) (b := (1 : UInt16)))) ?_
       rintro _ rfl
       refine Tops_yes rfl rfl (congrArg (fun b => some (Value.bool b)) hg6) (OpT_bin rfl rfl rfl rfl rfl (bin_neq_u16 (a := read2.1.Flags &&& (1 : UInt16)) (b := (0 : UInt16)))) ?_
       rintro _ rfl
       refine Tops_step rfl (OpT_pickF rfl rfl rfl (congrArg (fun b => some (Value.bool b)) hg6) rfl) ?_
       refine Tops_nil (Tk_wkS (fr' := [(4, some (.pointer (some ⟨b_arg4, 0, none⟩))), (5, some (.pointer (some ⟨bb_arg5, 0, none⟩))), (8, some (.pointer (some ⟨b_arg8, 0, none⟩))), (17, some (.pointer (some ⟨b2, 0, none⟩))), (69, some (vB ((read2.1.Flags &&& (1 : UInt16)) != (0 : UInt16))))]) (own' := [some (cellsR b_arg4 37 [vI m1]), some (cellsR bb_arg5 25 [.pointer (some ⟨b_arg5, 0, none⟩)]), some (cellsR b_arg5 113 [varg51, varg52]), some (rowsX u8S true varg52 vsarg51 arg5.b none), some (cellsR b_arg6 3 [vI (wi (m2 + (1 : Int)))]), some (cellsR b_arg7 4 [vB m3]), some (cellsR b_arg8 156 [.func (.func 84) #[] #[.pointer (some ⟨b_arg4, 0, none⟩), .pointer (some ⟨bb_arg5, 0, none⟩), .pointer (some ⟨b_arg6, 0, none⟩), .pointer (some ⟨b_arg7, 0, none⟩), .pointer (some ⟨b_arg8, 0, none⟩), .pointer (some ⟨b_arg9, 0, none⟩)]]), some (cellsR b_arg9 41 [v1]), some (rowS SegS v1 l1), some (cellsR b2 36 [vU64 read2.1.Addr, vU32 read2.1.Len, vU16 read2.1.Flags, vU16 read2.1.Next])]) (shr' := [Fact.sl RegionS varg51 arg5.l]) [4, 5, 8, 17, 69] [0, 1, 2, 3, 4, 5, 6, 7, 8, 10] [0] rfl rfl rfl rfl ?_)
       rcases Bool.eq_false_or_eq_true ((read2.1.Flags &&& (1 : UInt16)) != (0 : UInt16)) with hg7 | hg7
       ·replace h := br_t hg7 h
        refine Tk_condT (congrArg (fun b => some (Value.bool b)) hg7) ?_
        refine Tk_seq (Tk_region (Tops_step rfl (OpT_storeC (cs' := [vI (4 : Int)]) rfl rfl rfl rfl tyF37 (i := 0) rfl rfl rfl (one_of rfl) rfl) ?_))
        refine Tops_nil (Tk_wkS (fr' := []) (own' := [some (cellsR b_arg4 37 [vI (4 : Int)]), some (cellsR bb_arg5 25 [.pointer (some ⟨b_arg5, 0, none⟩)]), some (cellsR b_arg5 113 [varg51, varg52]), some (rowsX u8S true varg52 vsarg51 arg5.b none), some (cellsR b_arg6 3 [vI (wi (m2 + (1 : Int)))]), some (cellsR b_arg7 4 [vB m3]), some (cellsR b_arg8 156 [.func (.func 84) #[] #[.pointer (some ⟨b_arg4, 0, none⟩), .pointer (some ⟨bb_arg5, 0, none⟩), .pointer (some ⟨b_arg6, 0, none⟩), .pointer (some ⟨b_arg7, 0, none⟩), .pointer (some ⟨b_arg8, 0, none⟩), .pointer (some ⟨b_arg9, 0, none⟩)]]), some (cellsR b_arg9 41 [v1]), some (rowS SegS v1 l1)]) (shr' := [Fact.sl RegionS varg51 arg5.l]) [] [0, 1, 2, 3, 4, 5, 6, 7, 8] [0] rfl rfl rfl rfl ?_)
        obtain rfl := Option.some.inj h
        exact Tk_retV rfl rfl (resA (vs := []) rfl trivial) [0, 1, 2, 3, 4, 5, 6, 7, 8] [] rfl rfl rfl ⟨v1, rfl, rfl, rfl⟩
       ·replace h := br_f hg7 h
        refine Tk_condF (congrArg (fun b => some (Value.bool b)) hg7) ?_
        refine Tk_skip (Tk_seq (Tk_region (Tops_step rfl (OpT_loadC rfl rfl rfl rfl tyF25 (i := 1) rfl rfl) ?_)))
        refine Tops_step rfl (OpT_fieldC rfl rfl rfl rfl fldF36x0) ?_
        refine Tops_step rfl (OpT_loadC rfl rfl rfl rfl tyF27 (i := 9) rfl rfl) ?_
        refine Tops_step rfl (OpT_fieldC rfl rfl rfl rfl fldF36x1) ?_
        refine Tops_step rfl (OpT_loadC rfl rfl rfl rfl tyF33 (i := 9) rfl rfl) ?_
        obtain ⟨entrie1, hx3, h⟩ := ob_e h
        refine Tops_exP rfl (OpT_callP [0, 1, 10, 11, 4, 5, 6, 7, 8, 9] (w_walk_entries hx3) [2, 3] [0] rfl rfl rfl rfl rfl callee86 rfl rfl rfl rfl rfl) ?_
        rintro _ ⟨_, _, _, ⟨rfl, rfl, rfl⟩, rfl⟩
        refine Tops_step rfl (OpT_move rfl rfl rfl rfl) ?_
        refine Tops_step rfl (OpT_extract rfl rfl rfl rfl rfl) ?_
        refine Tops_step rfl (OpT_extract rfl rfl rfl rfl rfl) ?_
        refine Tops_step rfl (OpT_assign rfl rfl rfl rfl) ?_
        refine Tops_step rfl (OpT_assign rfl rfl rfl rfl) ?_
        refine Tops_nil (Tk_wkS (fr' := [(4, some (.pointer (some ⟨b_arg4, 0, none⟩))), (8, some (.pointer (some ⟨b_arg8, 0, none⟩))), (17, some (.pointer (some ⟨b2, 0, none⟩))), (19, some (vI entrie1.1)), (20, some (vI entrie1.2))]) (own' := [some (cellsR b_arg4 37 [vI m1]), some (cellsR bb_arg5 25 [.pointer (some ⟨b_arg5, 0, none⟩)]), some (cellsR b_arg5 113 [varg51, varg52]), some (rowsX u8S true varg52 vsarg51 arg5.b none), some (cellsR b_arg6 3 [vI (wi (m2 + (1 : Int)))]), some (cellsR b_arg7 4 [vB m3]), some (cellsR b_arg8 156 [.func (.func 84) #[] #[.pointer (some ⟨b_arg4, 0, none⟩), .pointer (some ⟨bb_arg5, 0, none⟩), .pointer (some ⟨b_arg6, 0, none⟩), .pointer (some ⟨b_arg7, 0, none⟩), .pointer (some ⟨b_arg8, 0, none⟩), .pointer (some ⟨b_arg9, 0, none⟩)]]), some (cellsR b_arg9 41 [v1]), some (rowS SegS v1 l1), some (cellsR b2 36 [vU64 read2.1.Addr, vU32 read2.1.Len, vU16 read2.1.Flags, vU16 read2.1.Next])]) (shr' := [Fact.sl RegionS varg51 arg5.l]) [4, 8, 17, 19, 20] [0, 1, 2, 3, 4, 5, 6, 7, 8, 9] [0] rfl rfl rfl rfl ?_)
        refine Tk_seq (Tk_seq (Tk_region (Tops_step rfl (OpT_move rfl rfl rfl rfl) ?_)))
        refine Tops_step rfl (OpT_storeC (cs' := [vI entrie1.2]) rfl rfl rfl rfl tyF37 (i := 0) rfl rfl rfl (one_of rfl) rfl) ?_
        refine Tops_nil (Tk_wkS (fr' := [(4, some (.pointer (some ⟨b_arg4, 0, none⟩))), (8, some (.pointer (some ⟨b_arg8, 0, none⟩))), (17, some (.pointer (some ⟨b2, 0, none⟩))), (19, some (vI entrie1.1))]) (own' := [some (cellsR b_arg4 37 [vI entrie1.2]), some (cellsR bb_arg5 25 [.pointer (some ⟨b_arg5, 0, none⟩)]), some (cellsR b_arg5 113 [varg51, varg52]), some (rowsX u8S true varg52 vsarg51 arg5.b none), some (cellsR b_arg6 3 [vI (wi (m2 + (1 : Int)))]), some (cellsR b_arg7 4 [vB m3]), some (cellsR b_arg8 156 [.func (.func 84) #[] #[.pointer (some ⟨b_arg4, 0, none⟩), .pointer (some ⟨bb_arg5, 0, none⟩), .pointer (some ⟨b_arg6, 0, none⟩), .pointer (some ⟨b_arg7, 0, none⟩), .pointer (some ⟨b_arg8, 0, none⟩), .pointer (some ⟨b_arg9, 0, none⟩)]]), some (cellsR b_arg9 41 [v1]), some (rowS SegS v1 l1), some (cellsR b2 36 [vU64 read2.1.Addr, vU32 read2.1.Len, vU16 read2.1.Flags, vU16 read2.1.Next])]) (shr' := [Fact.sl RegionS varg51 arg5.l]) [4, 8, 17, 19] [0, 1, 2, 3, 4, 5, 6, 7, 8, 9] [0] rfl rfl rfl rfl ?_)
        refine Tk_seq (Tk_region (Tops_step rfl (OpT_loadC rfl rfl rfl rfl tyF37 (i := 0) rfl rfl) ?_))
        refine Tops_step rfl (OpT_bin rfl rfl rfl rfl rfl (bin_eql_i (a := entrie1.2) (b := (0 : Int)))) ?_
        refine Tops_nil (Tk_wkS (fr' := [(8, some (.pointer (some ⟨b_arg8, 0, none⟩))), (17, some (.pointer (some ⟨b2, 0, none⟩))), (19, some (vI entrie1.1)), (81, some (vB (entrie1.2 == (0 : Int))))]) (own' := [some (cellsR b_arg4 37 [vI entrie1.2]), some (cellsR bb_arg5 25 [.pointer (some ⟨b_arg5, 0, none⟩)]), some (cellsR b_arg5 113 [varg51, varg52]), some (rowsX u8S true varg52 vsarg51 arg5.b none), some (cellsR b_arg6 3 [vI (wi (m2 + (1 : Int)))]), some (cellsR b_arg7 4 [vB m3]), some (cellsR b_arg8 156 [.func (.func 84) #[] #[.pointer (some ⟨b_arg4, 0, none⟩), .pointer (some ⟨bb_arg5, 0, none⟩), .pointer (some ⟨b_arg6, 0, none⟩), .pointer (some ⟨b_arg7, 0, none⟩), .pointer (some ⟨b_arg8, 0, none⟩), .pointer (some ⟨b_arg9, 0, none⟩)]]), some (cellsR b_arg9 41 [v1]), some (rowS SegS v1 l1), some (cellsR b2 36 [vU64 read2.1.Addr, vU32 read2.1.Len, vU16 read2.1.Flags, vU16 read2.1.Next])]) (shr' := [Fact.sl RegionS varg51 arg5.l]) [8, 17, 19, 81] [0, 1, 2, 3, 4, 5, 6, 7, 8, 9] [0] rfl rfl rfl rfl ?_)
        refine Tk_join (α := Int × Int × Bool × (List Seg) × Value) (fun s => ⟨[], [some (cellsR b_arg4 37 [vI s.1]), some (cellsR bb_arg5 25 [.pointer (some ⟨b_arg5, 0, none⟩)]), some (cellsR b_arg5 113 [varg51, varg52]), some (rowsX u8S true varg52 vsarg51 arg5.b none), some (cellsR b_arg6 3 [vI s.2.1]), some (cellsR b_arg7 4 [vB s.2.2.1]), some (cellsR b_arg8 156 [.func (.func 84) #[] #[.pointer (some ⟨b_arg4, 0, none⟩), .pointer (some ⟨bb_arg5, 0, none⟩), .pointer (some ⟨b_arg6, 0, none⟩), .pointer (some ⟨b_arg7, 0, none⟩), .pointer (some ⟨b_arg8, 0, none⟩), .pointer (some ⟨b_arg9, 0, none⟩)]]), some (cellsR b_arg9 41 [s.2.2.2.2]), some (rowS SegS s.2.2.2.2 s.2.2.2.1)], [Fact.sl RegionS varg51 arg5.l]⟩) (fun s => walk_split_1cf3J2 s.1 s.2.1 s.2.2.1 s.2.2.2.1 = some r) ?_ ?_
        ·rintro ⟨m4, m5, m6, l2, v3⟩ h
         replace h : walk_split_1cf3J2 m4 m5 m6 l2 = some r := h
         unfold walk_split_1cf3J2 at h
         obtain rfl := Option.some.inj h
         exact Tk_retV rfl rfl (resA (vs := []) rfl trivial) [0, 1, 2, 3, 4, 5, 6, 7, 8] [] rfl rfl rfl ⟨v3, rfl, rfl, rfl⟩
        ·intro HJ1
         rcases Bool.eq_false_or_eq_true (entrie1.2 == (0 : Int)) with hg8 | hg8
         ·replace h := br_t hg8 h
          refine Tk_condT (congrArg (fun b => some (Value.bool b)) hg8) ?_
          refine Tk_region (Tops_step rfl (OpT_loadC rfl rfl rfl rfl tyF156 (i := 6) rfl rfl) ?_)
          refine Tops_step rfl (OpT_fieldC rfl rfl rfl rfl fldF36x0) ?_
          refine Tops_step rfl (OpT_loadC rfl rfl rfl rfl tyF27 (i := 9) rfl rfl) ?_
          refine Tops_step rfl (OpT_move rfl rfl rfl rfl) ?_
          obtain ⟨split1, hx4, h⟩ := ob_e h
          refine Tops_exP rfl (OpT_callP [10, 11, 12, 13, 14, 15, 16, 17, 18, 9] (w_walk_split_1ct3 hx4) [0, 1, 2, 3, 4, 5, 6, 7, 8] [0] rfl rfl rfl rfl rfl callee84 rfl rfl rfl rfl rfl) ?_
          rintro _ ⟨_, _, _, ⟨v4, rfl, rfl, rfl⟩, rfl⟩
          refine Tops_nil (Tk_wkS (fr' := []) (own' := [some (cellsR b_arg4 37 [vI split1.1]), some (cellsR bb_arg5 25 [.pointer (some ⟨b_arg5, 0, none⟩)]), some (cellsR b_arg5 113 [varg51, varg52]), some (rowsX u8S true varg52 vsarg51 arg5.b none), some (cellsR b_arg6 3 [vI split1.2.1]), some (cellsR b_arg7 4 [vB split1.2.2.1]), some (cellsR b_arg8 156 [.func (.func 84) #[] #[.pointer (some ⟨b_arg4, 0, none⟩), .pointer (some ⟨bb_arg5, 0, none⟩), .pointer (some ⟨b_arg6, 0, none⟩), .pointer (some ⟨b_arg7, 0, none⟩), .pointer (some ⟨b_arg8, 0, none⟩), .pointer (some ⟨b_arg9, 0, none⟩)]]), some (cellsR b_arg9 41 [v4]), some (rowS SegS v4 split1.2.2.2)]) (shr' := [Fact.sl RegionS varg51 arg5.l]) [] [0, 1, 2, 3, 4, 5, 6, 7, 8] [0] rfl rfl rfl rfl ?_)
          exact Tk_jmpS (HJ1 (split1.1, split1.2.1, split1.2.2.1, split1.2.2.2, v4) h) [] [0, 1, 2, 3, 4, 5, 6, 7, 8] [0] rfl rfl rfl rfl
         ·replace h := br_f hg8 h
          refine Tk_condF (congrArg (fun b => some (Value.bool b)) hg8) ?_
          refine Tk_skip ?_
          exact Tk_jmpS (HJ1 (entrie1.2, wi (m2 + (1 : Int)), m3, l1, v1) h) [] [0, 1, 2, 3, 4, 5, 6, 7, 8] [0] rfl rfl rfl rfl
     ·replace h := br_f hg5 h
      refine Tk_condF (congrArg (fun b => some (Value.bool b)) hg5) ?_
      refine Tk_skip (Tk_seq (Tk_drawT (by kernel_rfl) ?_))
      refine TA_tb [0, 0, 2, 0, 8, 0, 32, 126, 254, 511, 1023] (by kernel_rfl) fun htb => ?_
      refine TA_wkS (fr' := [(0, some (vU64 atp0)), (1, some (vI size)), (3, some (vB false)), (4, some (.pointer (some ⟨b_arg4, 0, none⟩))), (5, some (.pointer (some ⟨bb_arg5, 0, none⟩))), (6, some (.pointer (some ⟨b_arg6, 0, none⟩))), (7, some (.pointer (some ⟨b_arg7, 0, none⟩))), (8, some (.pointer (some ⟨b_arg8, 0, none⟩))), (9, some (.pointer (some ⟨b_arg9, 0, none⟩))), (14, some (.map (some b1))), (17, some (.pointer (some ⟨b2, 0, none⟩)))]) (own' := [some (cellsR b_arg4 37 [vI m1]), some (cellsR bb_arg5 25 [.pointer (some ⟨b_arg5, 0, none⟩)]), some (cellsR b_arg5 113 [varg51, varg52]), some (rowsX u8S true varg52 vsarg51 arg5.b none), some (cellsR b_arg6 3 [vI (wi (m2 + (1 : Int)))]), some (cellsR b_arg7 4 [vB m3]), some (cellsR b_arg8 156 [.func (.func 84) #[] #[.pointer (some ⟨b_arg4, 0, none⟩), .pointer (some ⟨bb_arg5, 0, none⟩), .pointer (some ⟨b_arg6, 0, none⟩), .pointer (some ⟨b_arg7, 0, none⟩), .pointer (some ⟨b_arg8, 0, none⟩), .pointer (some ⟨b_arg9, 0, none⟩)]]), some (cellsR b_arg9 41 [v1]), some (rowS SegS v1 l1), some (mapR b1 .i64 (fun x : Int => x) vB (mput k1 true map1)), some (cellsR b2 36 [vU64 read2.1.Addr, vU32 read2.1.Len, vU16 read2.1.Flags, vU16 read2.1.Next])]) (shr' := [Fact.sl RegionS varg51 arg5.l]) [0, 1, 3, 4, 5, 6, 7, 8, 9, 14, 17] [0, 1, 2, 3, 4, 5, 6, 7, 8, 9, 10] [0] rfl rfl rfl rfl ?_
      obtain ⟨made1, hx5, h⟩ := ob_e h
      refine TA_seg (lo := 0) (hi := 9) htb rfl rfl (by kernel_rfl) (fun c L a w => ∃ (v5 : Value), Sat c ⟨[(0, some (vU64 atp0)), (1, some (vI size)), (3, some (vB false)), (4, some (.pointer (some ⟨b_arg4, 0, none⟩))), (5, some (.pointer (some ⟨bb_arg5, 0, none⟩))), (6, some (.pointer (some ⟨b_arg6, 0, none⟩))), (7, some (.pointer (some ⟨b_arg7, 0, none⟩))), (8, some (.pointer (some ⟨b_arg8, 0, none⟩))), (9, some (.pointer (some ⟨b_arg9, 0, none⟩))), (14, some (.map (some b1))), (17, some (.pointer (some ⟨b2, 0, none⟩))), (87, bif L 0 then some (v1) else none), (88, bif L 1 then some (.pointer (some ⟨b2, 0, none⟩)) else none), (89, bif L 2 then some (vU64 read2.1.Addr) else none), (90, bif L 3 then some (.pointer (some ⟨b2, 1, none⟩)) else none), (91, bif L 4 then some (vU32 read2.1.Len) else none), (92, bif L 5 then some (.pointer (some ⟨b2, 2, none⟩)) else none), (93, bif L 6 then some (vU16 read2.1.Flags) else none), (94, bif L 7 then some (.agg #[vU64 made1.At, vU32 made1.Len, vB made1.Write]) else none), (95, bif L 8 then some (v5) else none)], [(some (cellsR b_arg4 37 [vI m1]) : Option Res), (some (cellsR bb_arg5 25 [.pointer (some ⟨b_arg5, 0, none⟩)]) : Option Res), (some (cellsR b_arg5 113 [varg51, varg52]) : Option Res), (some (rowsX u8S true varg52 vsarg51 arg5.b none) : Option Res), (some (cellsR b_arg6 3 [vI (wi (m2 + (1 : Int)))]) : Option Res), (some (cellsR b_arg7 4 [vB m3]) : Option Res), (some (cellsR b_arg8 156 [.func (.func 84) #[] #[.pointer (some ⟨b_arg4, 0, none⟩), .pointer (some ⟨bb_arg5, 0, none⟩), .pointer (some ⟨b_arg6, 0, none⟩), .pointer (some ⟨b_arg7, 0, none⟩), .pointer (some ⟨b_arg8, 0, none⟩), .pointer (some ⟨b_arg9, 0, none⟩)]]) : Option Res), (some (cellsR b_arg9 41 [v1]) : Option Res), (some (rowS SegS v1 l1) : Option Res), (some (mapR b1 .i64 (fun x : Int => x) vB (mput k1 true map1)) : Option Res), (some (cellsR b2 36 [vU64 read2.1.Addr, vU32 read2.1.Len, vU16 read2.1.Flags, vU16 read2.1.Next]) : Option Res), (bif L 8 then some (rowS SegS v5 [made1]) else none : Option Res)], [Fact.sl RegionS varg51 arg5.l]⟩ a w) [([], []), ([], [2, 7, 8]), ([1], [7, 8]), ([], [4, 7, 8]), ([3], [7, 8]), ([], [6, 7, 8]), ([5], [7, 8]), ([1, 2, 3, 4, 5, 6], [8]), ([1, 2, 3, 4, 5, 6, 7], [])] rfl (by kernel_rfl) ?_ (steps_cons ?_ (steps_cons ?_ (steps_cons ?_ (steps_cons ?_ (steps_cons ?_ (steps_cons ?_ (steps_cons ?_ (steps_cons ?_ (steps_cons ?_ (steps_nil)))))))))) ?_
      ·intro a w hs
       exact ⟨undef, hs.startF [87, 88, 89, 90, 91, 92, 93, 94, 95] [0, 1, 2, 3, 4, 5, 6, 7, 8, 9, 10, 11] [0] rfl rfl rfl rfl⟩
      ·intro L a w hv K Q hK
       obtain ⟨v5, hs⟩ := hv
       refine wpOp_go rfl rfl hs (OpT_loadC rfl rfl rfl rfl tyF41 (i := 7) rfl rfl) ?_
       rintro _ rfl a' w' hs'
       exact hK a' w' ⟨v5, hs'.putF (i := 11) rfl [0, 1, 2, 3, 4, 5, 6, 7, 8, 9, 10, 11] [0] rfl rfl rfl rfl⟩
      ·intro L a w hv K Q hK
       obtain ⟨v5, hs⟩ := hv
       refine wpOp_go rfl rfl hs (OpT_fieldC rfl rfl rfl rfl fldF36x0) ?_
       rintro _ rfl a' w' hs'
       exact hK a' w' ⟨v5, hs'.putF (i := 12) rfl [0, 1, 2, 3, 4, 5, 6, 7, 8, 9, 10, 11] [0] rfl rfl rfl rfl⟩
      ·intro L a w hv K Q hK
       obtain ⟨v5, hs⟩ := hv
       refine wpOp_go rfl rfl hs (OpT_loadC rfl rfl rfl rfl tyF27 (i := 10) rfl rfl) ?_
       rintro _ rfl a' w' hs'
       exact hK a' w' ⟨v5, hs'.putF (i := 13) rfl [0, 1, 2, 3, 4, 5, 6, 7, 8, 9, 10, 11] [0] rfl rfl rfl rfl⟩
      ·intro L a w hv K Q hK
       obtain ⟨v5, hs⟩ := hv
       refine wpOp_go rfl rfl hs (OpT_fieldC rfl rfl rfl rfl fldF36x1) ?_
       rintro _ rfl a' w' hs'
       exact hK a' w' ⟨v5, hs'.putF (i := 14) rfl [0, 1, 2, 3, 4, 5, 6, 7, 8, 9, 10, 11] [0] rfl rfl rfl rfl⟩
      ·intro L a w hv K Q hK
       obtain ⟨v5, hs⟩ := hv
       refine wpOp_go rfl rfl hs (OpT_loadC rfl rfl rfl rfl tyF33 (i := 10) rfl rfl) ?_
       rintro _ rfl a' w' hs'
       exact hK a' w' ⟨v5, hs'.putF (i := 15) rfl [0, 1, 2, 3, 4, 5, 6, 7, 8, 9, 10, 11] [0] rfl rfl rfl rfl⟩
      ·intro L a w hv K Q hK
       obtain ⟨v5, hs⟩ := hv
       refine wpOp_go rfl rfl hs (OpT_fieldC rfl rfl rfl rfl fldF36x2) ?_
       rintro _ rfl a' w' hs'
       exact hK a' w' ⟨v5, hs'.putF (i := 16) rfl [0, 1, 2, 3, 4, 5, 6, 7, 8, 9, 10, 11] [0] rfl rfl rfl rfl⟩
      ·intro L a w hv K Q hK
       obtain ⟨v5, hs⟩ := hv
       refine wpOp_go rfl rfl hs (OpT_loadC rfl rfl rfl rfl tyF34 (i := 10) rfl rfl) ?_
       rintro _ rfl a' w' hs'
       exact hK a' w' ⟨v5, hs'.putF (i := 17) rfl [0, 1, 2, 3, 4, 5, 6, 7, 8, 9, 10, 11] [0] rfl rfl rfl rfl⟩
      ·intro L a w hv K Q hK
       obtain ⟨v5, hs⟩ := hv
       refine wpOp_go rfl rfl hs (OpT_call (w_walk_made hx5) [] [] rfl rfl rfl rfl rfl callee87 rfl rfl rfl rfl) ?_
       rintro _ ⟨_, _, _, ⟨rfl, rfl, rfl⟩, rfl⟩ a' w' hs'
       exact hK a' w' ⟨v5, hs'.putF (i := 18) rfl [0, 1, 2, 3, 4, 5, 6, 7, 8, 9, 10, 11] [0] rfl rfl rfl rfl⟩
      ·intro L a w hv K Q hK
       obtain ⟨v5, hs⟩ := hv
       refine wpOp_go rfl rfl hs (OpT_buildSlice (S := SegS) (xs := [made1]) (css := [[vU64 made1.At, vU32 made1.Len, vB made1.Write]]) (cs := [vU64 made1.At, vU32 made1.Len, vB made1.Write]) (e := 46) rfl rfl rfl rfl (bldF slF41 (by decide) (by kernel_rfl)) rfl rfl rfl rfl (rel_plainD (S := SegS) (xs := [made1]) (css := [[vU64 made1.At, vU32 made1.Len, vB made1.Write]]) rfl rfl)) ?_
       rintro _ ⟨v5', rfl⟩ a' w' hs'
       exact hK a' w' ⟨v5', hs'.putF (i := 19) rfl [0, 1, 2, 3, 4, 5, 6, 7, 8, 9, 10, 12] [0] rfl rfl rfl rfl⟩
      ·intro L a w hL hv
       rw [allTrue hL] at hv
       obtain ⟨v5, hs⟩ := hv
       refine (show TA _ _ _ 9 ⟨[(0, some (vU64 atp0)), (1, some (vI size)), (3, some (vB false)), (4, some (.pointer (some ⟨b_arg4, 0, none⟩))), (5, some (.pointer (some ⟨bb_arg5, 0, none⟩))), (6, some (.pointer (some ⟨b_arg6, 0, none⟩))), (7, some (.pointer (some ⟨b_arg7, 0, none⟩))), (8, some (.pointer (some ⟨b_arg8, 0, none⟩))), (9, some (.pointer (some ⟨b_arg9, 0, none⟩))), (14, some (.map (some b1))), (17, some (.pointer (some ⟨b2, 0, none⟩))), (87, some (v1)), (95, some (v5))], [some (cellsR b_arg4 37 [vI m1]), some (cellsR bb_arg5 25 [.pointer (some ⟨b_arg5, 0, none⟩)]), some (cellsR b_arg5 113 [varg51, varg52]), some (rowsX u8S true varg52 vsarg51 arg5.b none), some (cellsR b_arg6 3 [vI (wi (m2 + (1 : Int)))]), some (cellsR b_arg7 4 [vB m3]), some (cellsR b_arg8 156 [.func (.func 84) #[] #[.pointer (some ⟨b_arg4, 0, none⟩), .pointer (some ⟨bb_arg5, 0, none⟩), .pointer (some ⟨b_arg6, 0, none⟩), .pointer (some ⟨b_arg7, 0, none⟩), .pointer (some ⟨b_arg8, 0, none⟩), .pointer (some ⟨b_arg9, 0, none⟩)]]), some (cellsR b_arg9 41 [v1]), some (rowS SegS v1 l1), some (mapR b1 .i64 (fun x : Int => x) vB (mput k1 true map1)), some (cellsR b2 36 [vU64 read2.1.Addr, vU32 read2.1.Len, vU16 read2.1.Flags, vU16 read2.1.Next]), some (rowS SegS v5 [made1])], [Fact.sl RegionS varg51 arg5.l]⟩ from ?_) a w (hs.wkS [0, 1, 3, 4, 5, 6, 7, 8, 9, 14, 17, 87, 95] [0, 1, 2, 3, 4, 5, 6, 7, 8, 9, 10, 11] [0] rfl rfl rfl rfl)
       clear hs hL
       obtain ⟨hc1, h⟩ := chk_e h
       refine TA_ex htb (by kernel_rfl) rfl rfl (OpT_appendB (S := SegS) rfl rfl rfl rfl rfl rfl slF41 (i := 8) (j := 11) rfl rfl hc1) fun v6 => ?_
       refine TA_step htb (by kernel_rfl) rfl rfl (OpT_storeV (cs' := [v6]) rfl rfl rfl rfl tyF41 (i := 7) rfl (is_row (i := 8) rfl) rfl rfl) ?_
       refine TA_end rfl ?_
       refine Tk_wkS (fr' := [(0, some (vU64 atp0)), (1, some (vI size)), (3, some (vB false)), (4, some (.pointer (some ⟨b_arg4, 0, none⟩))), (5, some (.pointer (some ⟨bb_arg5, 0, none⟩))), (6, some (.pointer (some ⟨b_arg6, 0, none⟩))), (7, some (.pointer (some ⟨b_arg7, 0, none⟩))), (8, some (.pointer (some ⟨b_arg8, 0, none⟩))), (9, some (.pointer (some ⟨b_arg9, 0, none⟩))), (14, some (.map (some b1))), (17, some (.pointer (some ⟨b2, 0, none⟩)))]) (own' := [some (cellsR b_arg4 37 [vI m1]), some (cellsR bb_arg5 25 [.pointer (some ⟨b_arg5, 0, none⟩)]), some (cellsR b_arg5 113 [varg51, varg52]), some (rowsX u8S true varg52 vsarg51 arg5.b none), some (cellsR b_arg6 3 [vI (wi (m2 + (1 : Int)))]), some (cellsR b_arg7 4 [vB m3]), some (cellsR b_arg8 156 [.func (.func 84) #[] #[.pointer (some ⟨b_arg4, 0, none⟩), .pointer (some ⟨bb_arg5, 0, none⟩), .pointer (some ⟨b_arg6, 0, none⟩), .pointer (some ⟨b_arg7, 0, none⟩), .pointer (some ⟨b_arg8, 0, none⟩), .pointer (some ⟨b_arg9, 0, none⟩)]]), some (cellsR b_arg9 41 [v6]), some (rowS SegS v6 (l1 ++ [made1])), some (mapR b1 .i64 (fun x : Int => x) vB (mput k1 true map1)), some (cellsR b2 36 [vU64 read2.1.Addr, vU32 read2.1.Len, vU16 read2.1.Flags, vU16 read2.1.Next])]) (shr' := [Fact.sl RegionS varg51 arg5.l]) [0, 1, 3, 4, 5, 6, 7, 8, 9, 14, 17] [0, 1, 2, 3, 4, 5, 6, 7, 8, 9, 10] [0] rfl rfl rfl rfl ?_
       refine Tk_seq (Tk_seq (Tk_region (Tops_step rfl (OpT_fieldC rfl rfl rfl rfl fldF36x2) ?_)))
       refine Tops_step rfl (OpT_loadC rfl rfl rfl rfl tyF34 (i := 10) rfl rfl) ?_
       refine Tops_step rfl (OpT_bin rfl rfl rfl rfl rfl (bin_and_u16 (a := read2.1.Flags) (b := (1 : UInt16)))) ?_
       refine Tops_step rfl (OpT_bin rfl rfl rfl rfl rfl (bin_eql_u16 (a := read2.1.Flags &&& (1 : UInt16)) (b := (0 : UInt16)))) ?_
       refine Tops_nil (Tk_wkS (fr' := [(0, some (vU64 atp0)), (1, some (vI size)), (3, some (vB false)), (4, some (.pointer (some ⟨b_arg4, 0, none⟩))), (5, some (.pointer (some ⟨bb_arg5, 0, none⟩))), (6, some (.pointer (some ⟨b_arg6, 0, none⟩))), (7, some (.pointer (some ⟨b_arg7, 0, none⟩))), (8, some (.pointer (some ⟨b_arg8, 0, none⟩))), (9, some (.pointer (some ⟨b_arg9, 0, none⟩))), (14, some (.map (some b1))), (17, some (.pointer (some ⟨b2, 0, none⟩))), (100, some (vB ((read2.1.Flags &&& (1 : UInt16)) == (0 : UInt16))))]) (own' := [some (cellsR b_arg4 37 [vI m1]), some (cellsR bb_arg5 25 [.pointer (some ⟨b_arg5, 0, none⟩)]), some (cellsR b_arg5 113 [varg51, varg52]), some (rowsX u8S true varg52 vsarg51 arg5.b none), some (cellsR b_arg6 3 [vI (wi (m2 + (1 : Int)))]), some (cellsR b_arg7 4 [vB m3]), some (cellsR b_arg8 156 [.func (.func 84) #[] #[.pointer (some ⟨b_arg4, 0, none⟩), .pointer (some ⟨bb_arg5, 0, none⟩), .pointer (some ⟨b_arg6, 0, none⟩), .pointer (some ⟨b_arg7, 0, none⟩), .pointer (some ⟨b_arg8, 0, none⟩), .pointer (some ⟨b_arg9, 0, none⟩)]]), some (cellsR b_arg9 41 [v6]), some (rowS SegS v6 (l1 ++ [made1])), some (mapR b1 .i64 (fun x : Int => x) vB (mput k1 true map1)), some (cellsR b2 36 [vU64 read2.1.Addr, vU32 read2.1.Len, vU16 read2.1.Flags, vU16 read2.1.Next])]) (shr' := [Fact.sl RegionS varg51 arg5.l]) [0, 1, 3, 4, 5, 6, 7, 8, 9, 14, 17, 100] [0, 1, 2, 3, 4, 5, 6, 7, 8, 9, 10] [0] rfl rfl rfl rfl ?_)
       rcases Bool.eq_false_or_eq_true ((read2.1.Flags &&& (1 : UInt16)) == (0 : UInt16)) with hg9 | hg9
       ·replace h := br_t hg9 h
        refine Tk_condT (congrArg (fun b => some (Value.bool b)) hg9) ?_
        obtain rfl := Option.some.inj h
        exact Tk_retV rfl rfl (resA (vs := []) rfl trivial) [0, 1, 2, 3, 4, 5, 6, 7, 8] [] rfl rfl rfl ⟨v6, rfl, rfl, rfl⟩
       ·replace h := br_f hg9 h
        refine Tk_condF (congrArg (fun b => some (Value.bool b)) hg9) ?_
        refine Tk_skip (Tk_region (Tops_step rfl (OpT_fieldC rfl rfl rfl rfl fldF36x3) ?_))
        refine Tops_step rfl (OpT_loadC rfl rfl rfl rfl tyF34 (i := 10) rfl rfl) ?_
        refine Tops_step rfl (OpT_cnv rfl rfl rfl rfl (cnv_u16_i (n := read2.1.Next) Try.underlying34 Try.underlying3)) ?_
        refine Tops_step rfl (OpT_assign rfl rfl rfl rfl) ?_
        refine Tops_nil (Tk_wkS (fr' := [(0, some (vU64 atp0)), (1, some (vI size)), (3, some (vB false)), (4, some (.pointer (some ⟨b_arg4, 0, none⟩))), (5, some (.pointer (some ⟨bb_arg5, 0, none⟩))), (6, some (.pointer (some ⟨b_arg6, 0, none⟩))), (7, some (.pointer (some ⟨b_arg7, 0, none⟩))), (8, some (.pointer (some ⟨b_arg8, 0, none⟩))), (9, some (.pointer (some ⟨b_arg9, 0, none⟩))), (14, some (.map (some b1))), (2, some (vI (i16 read2.1.Next)))]) (own' := [some (cellsR b_arg4 37 [vI m1]), some (cellsR bb_arg5 25 [.pointer (some ⟨b_arg5, 0, none⟩)]), some (cellsR b_arg5 113 [varg51, varg52]), some (rowsX u8S true varg52 vsarg51 arg5.b none), some (cellsR b_arg6 3 [vI (wi (m2 + (1 : Int)))]), some (cellsR b_arg7 4 [vB m3]), some (cellsR b_arg8 156 [.func (.func 84) #[] #[.pointer (some ⟨b_arg4, 0, none⟩), .pointer (some ⟨bb_arg5, 0, none⟩), .pointer (some ⟨b_arg6, 0, none⟩), .pointer (some ⟨b_arg7, 0, none⟩), .pointer (some ⟨b_arg8, 0, none⟩), .pointer (some ⟨b_arg9, 0, none⟩)]]), some (cellsR b_arg9 41 [v6]), some (rowS SegS v6 (l1 ++ [made1])), some (mapR b1 .i64 (fun x : Int => x) vB (mput k1 true map1))]) (shr' := [Fact.sl RegionS varg51 arg5.l]) [0, 1, 3, 4, 5, 6, 7, 8, 9, 14, 2] [0, 1, 2, 3, 4, 5, 6, 7, 8, 9] [0] rfl rfl rfl rfl ?_)
        refine Tk_blk ?_
        exact Tk_backS (i16 read2.1.Next, m1, wi (m2 + (1 : Int)), m3, l1 ++ [made1], mput k1 true map1, v6) h [0, 1, 2, 3, 4, 5, 6, 7, 8, 9, 14] [0, 1, 2, 3, 4, 5, 6, 7, 8, 9] [0] rfl rfl rfl rfl rfl

set_option maxRecDepth 100000 in
set_option maxHeartbeats 4000000 in
theorem w_walk_split {m : gmem_Mem} {rp1 : Rings} {head : Int} {table : Bool} {b_m : Nat} {vm1 : Value} {vm2 : Value} {vsm1 : List Value} {r : ((List Seg) × Int × Int)} (h : walk_split m rp1 head table = some r) :
  Ctr Try.prog 41 #[.pointer (some ⟨b_m, 0, none⟩), .agg #[vB rp1.Packed, vI rp1.Size, vU64 rp1.Desc, vU64 rp1.Driver, vU64 rp1.Device], vI head, vB table] [(cellsR b_m 113 [vm1, vm2]), (rowsX u8S true vm2 vsm1 m.b none)] [Fact.sl RegionS vm1 m.l]
   (fun rv own shr => ∃ (w1 : Value), rv = .tuple #[w1, vI r.2.1, vI r.2.2] ∧ own = [(cellsR b_m 113 [vm1, vm2]), (rowsX u8S true vm2 vsm1 m.b none), (rowS SegS w1 r.1)] ∧ shr = []) := by
 unfold walk_split at h
 refine Ctr.mk (args := [.pointer (some ⟨b_m, 0, none⟩), .agg #[vB rp1.Packed, vI rp1.Size, vU64 rp1.Desc, vU64 rp1.Driver, vU64 rp1.Device], vI head, vB table]) Try.func41 rfl rfl (fun R0 w0 B => ?_)
 refine Tk_seq (Tk_region (Tops_ex rfl (OpT_box rfl rfl rfl rfl) fun b1 => ?_))
 refine Tops_ex rfl (OpT_box rfl rfl rfl rfl) fun b2 => ?_
 refine Tops_ex rfl (OpT_box rfl rfl rfl rfl) fun b3 => ?_
 refine Tops_ex rfl (OpT_alloc rfl rfl rfl tyZ41) fun b4 => ?_
 refine Tops_ex rfl (OpT_alloc rfl rfl rfl tyZ3) fun b5 => ?_
 refine Tops_ex rfl (OpT_alloc rfl rfl rfl tyZ37) fun b6 => ?_
 refine Tops_nil (Tk_wkS (fr' := [(2, some (vI head)), (4, some (.pointer (some ⟨b1, 0, none⟩))), (5, some (.pointer (some ⟨b2, 0, none⟩))), (7, some (.pointer (some ⟨b3, 0, none⟩))), (8, some (.pointer (some ⟨b4, 0, none⟩))), (9, some (.pointer (some ⟨b5, 0, none⟩))), (10, some (.pointer (some ⟨b6, 0, none⟩)))]) (own' := [some (cellsR b_m 113 [vm1, vm2]), some (rowsX u8S true vm2 vsm1 m.b none), some (cellsR b1 25 [.pointer (some ⟨b_m, 0, none⟩)]), some (cellsR b2 29 [vB rp1.Packed, vI rp1.Size, vU64 rp1.Desc, vU64 rp1.Driver, vU64 rp1.Device]), some (cellsR b3 4 [vB table]), some (cellsR b4 41 [.slice none 0 0]), some (cellsR b5 3 [vI (0 : Int)]), some (cellsR b6 37 [vI (0 : Int)])]) (shr' := [Fact.sl RegionS vm1 m.l]) [2, 4, 5, 7, 8, 9, 10] [0, 1, 2, 3, 4, 5, 6, 7] [0] rfl rfl rfl rfl ?_)
 refine Tk_seq (Tk_region (Tops_ex rfl (OpT_alloc rfl rfl rfl tyZ156) fun b7 => ?_))
 refine Tops_nil (Tk_seq (Tk_region (Tops_step rfl (OpT_makeFunc (vs := [.pointer (some ⟨b6, 0, none⟩), .pointer (some ⟨b1, 0, none⟩), .pointer (some ⟨b5, 0, none⟩), .pointer (some ⟨b3, 0, none⟩), .pointer (some ⟨b7, 0, none⟩), .pointer (some ⟨b4, 0, none⟩)]) rfl rfl rfl rfl) ?_)))
 refine Tops_step rfl (OpT_storeC (cs' := [.func (.func 84) #[] #[.pointer (some ⟨b6, 0, none⟩), .pointer (some ⟨b1, 0, none⟩), .pointer (some ⟨b5, 0, none⟩), .pointer (some ⟨b3, 0, none⟩), .pointer (some ⟨b7, 0, none⟩), .pointer (some ⟨b4, 0, none⟩)]]) rfl rfl rfl rfl tyF156 (i := 8) rfl rfl rfl (one_of rfl) rfl) ?_
 refine Tops_nil (Tk_wkS (fr' := [(2, some (vI head)), (5, some (.pointer (some ⟨b2, 0, none⟩))), (8, some (.pointer (some ⟨b4, 0, none⟩))), (9, some (.pointer (some ⟨b5, 0, none⟩))), (10, some (.pointer (some ⟨b6, 0, none⟩))), (11, some (.pointer (some ⟨b7, 0, none⟩)))]) (own' := [some (cellsR b_m 113 [vm1, vm2]), some (rowsX u8S true vm2 vsm1 m.b none), some (cellsR b1 25 [.pointer (some ⟨b_m, 0, none⟩)]), some (cellsR b2 29 [vB rp1.Packed, vI rp1.Size, vU64 rp1.Desc, vU64 rp1.Driver, vU64 rp1.Device]), some (cellsR b3 4 [vB table]), some (cellsR b4 41 [.slice none 0 0]), some (cellsR b5 3 [vI (0 : Int)]), some (cellsR b6 37 [vI (0 : Int)]), some (cellsR b7 156 [.func (.func 84) #[] #[.pointer (some ⟨b6, 0, none⟩), .pointer (some ⟨b1, 0, none⟩), .pointer (some ⟨b5, 0, none⟩), .pointer (some ⟨b3, 0, none⟩), .pointer (some ⟨b7, 0, none⟩), .pointer (some ⟨b4, 0, none⟩)]])]) (shr' := [Fact.sl RegionS vm1 m.l]) [2, 5, 8, 9, 10, 11] [0, 1, 2, 3, 4, 5, 6, 7, 8] [0] rfl rfl rfl rfl ?_)
 refine Tk_seq (Tk_region (Tops_step rfl (OpT_loadC rfl rfl rfl rfl tyF156 (i := 8) rfl rfl) ?_))
 refine Tops_step rfl (OpT_fieldC rfl rfl rfl rfl fldF29x2) ?_
 refine Tops_step rfl (OpT_loadC rfl rfl rfl rfl tyF27 (i := 3) rfl rfl) ?_
 refine Tops_step rfl (OpT_fieldC rfl rfl rfl rfl fldF29x1) ?_
 refine Tops_step rfl (OpT_loadC rfl rfl rfl rfl tyF3 (i := 3) rfl rfl) ?_
 refine Tops_step rfl (OpT_move rfl rfl rfl rfl) ?_
 refine Tops_nilrow SegS ?_
 obtain ⟨split1, hx1, h⟩ := ob_e h
 refine Tops_exP rfl (OpT_callP [12, 13, 11, 3, 15, 17, 14, 10, 16, 18] (w_walk_split_1cf3 hx1) [7, 2, 0, 1, 6, 4, 8, 5, 9] [0] rfl rfl rfl rfl rfl callee84 rfl rfl rfl rfl rfl) ?_
 rintro _ ⟨_, _, _, ⟨v1, rfl, rfl, rfl⟩, rfl⟩
 refine Tops_nil (Tk_wkS (fr' := [(8, some (.pointer (some ⟨b4, 0, none⟩))), (9, some (.pointer (some ⟨b5, 0, none⟩))), (10, some (.pointer (some ⟨b6, 0, none⟩)))]) (own' := [some (cellsR b_m 113 [vm1, vm2]), some (rowsX u8S true vm2 vsm1 m.b none), some (cellsR b4 41 [v1]), some (cellsR b5 3 [vI split1.2.1]), some (cellsR b6 37 [vI split1.1]), some (rowS SegS v1 split1.2.2.2)]) (shr' := [Fact.sl RegionS vm1 m.l]) [8, 9, 10] [0, 1, 5, 6, 7, 9] [0] rfl rfl rfl rfl ?_)
 refine Tk_seq (Tk_drawT (by kernel_rfl) ?_)
 refine TA_tb [0, 0, 0, 1, 11, 31] (by kernel_rfl) fun htb => ?_
 refine TA_seg (lo := 0) (hi := 5) htb rfl rfl (by kernel_rfl) (fun c L a w => Sat c ⟨[(8, some (.pointer (some ⟨b4, 0, none⟩))), (9, some (.pointer (some ⟨b5, 0, none⟩))), (10, some (.pointer (some ⟨b6, 0, none⟩))), (20, bif L 0 then some (v1) else none), (21, bif L 1 then some (vI split1.2.1) else none), (22, bif L 2 then some (vI split1.1) else none)], [(some (cellsR b_m 113 [vm1, vm2]) : Option Res), (some (rowsX u8S true vm2 vsm1 m.b none) : Option Res), (some (cellsR b4 41 [v1]) : Option Res), (some (cellsR b5 3 [vI split1.2.1]) : Option Res), (some (cellsR b6 37 [vI split1.1]) : Option Res), (some (rowS SegS v1 split1.2.2.2) : Option Res)], [Fact.sl RegionS vm1 m.l]⟩ a w) [([], [3, 4]), ([], [4]), ([], []), ([0], [4]), ([0, 1, 3], [])] rfl (by kernel_rfl) ?_ (steps_cons ?_ (steps_cons ?_ (steps_cons ?_ (steps_cons ?_ (steps_cons ?_ (steps_nil)))))) ?_
 ·intro a w hs
  exact hs.startF [20, 21, 22] [0, 1, 2, 3, 4, 5] [0] rfl rfl rfl rfl
 ·intro L a w hv K Q hK
  have hs := hv
  refine wpOp_go rfl rfl hs (OpT_loadC rfl rfl rfl rfl tyF41 (i := 2) rfl rfl) ?_
  rintro _ rfl a' w' hs'
  exact hK a' w' (hs'.putF (i := 3) rfl [0, 1, 2, 3, 4, 5] [0] rfl rfl rfl rfl)
 ·intro L a w hv K Q hK
  have hs := hv
  refine wpOp_go rfl rfl hs (OpT_loadC rfl rfl rfl rfl tyF3 (i := 3) rfl rfl) ?_
  rintro _ rfl a' w' hs'
  exact hK a' w' (hs'.putF (i := 4) rfl [0, 1, 2, 3, 4, 5] [0] rfl rfl rfl rfl)
 ·intro L a w hv K Q hK
  have hs := hv
  refine wpOp_go rfl rfl hs (OpT_loadC rfl rfl rfl rfl tyF37 (i := 4) rfl rfl) ?_
  rintro _ rfl a' w' hs'
  exact hK a' w' (hs'.putF (i := 5) rfl [0, 1, 2, 3, 4, 5] [0] rfl rfl rfl rfl)
 ·intro L a w hv K Q hK
  have hs := hv
  refine wpOp_go rfl rfl hs (OpT_storeV (cs' := [v1]) rfl rfl rfl rfl tyF41 (i := 2) rfl (is_row (i := 5) rfl) rfl rfl) ?_
  rintro _ rfl a' w' hs'
  exact hK a' w' (hs'.sameF [0, 1, 2, 3, 4, 5] [0] rfl rfl rfl rfl)
 ·intro L a w hv K Q hK
  have hs := hv
  refine wpOp_go rfl rfl hs (OpT_storeC (cs' := [vI split1.2.1]) rfl rfl rfl rfl tyF3 (i := 3) rfl rfl rfl (one_of rfl) rfl) ?_
  rintro _ rfl a' w' hs'
  exact hK a' w' (hs'.sameF [0, 1, 2, 3, 4, 5] [0] rfl rfl rfl rfl)
 ·intro L a w hL hv
  rw [allTrue hL] at hv
  have hs := hv
  refine (show TA _ _ _ 5 ⟨[(8, some (.pointer (some ⟨b4, 0, none⟩))), (9, some (.pointer (some ⟨b5, 0, none⟩))), (10, some (.pointer (some ⟨b6, 0, none⟩))), (22, some (vI split1.1))], [some (cellsR b_m 113 [vm1, vm2]), some (rowsX u8S true vm2 vsm1 m.b none), some (cellsR b4 41 [v1]), some (cellsR b5 3 [vI split1.2.1]), some (cellsR b6 37 [vI split1.1]), some (rowS SegS v1 split1.2.2.2)], [Fact.sl RegionS vm1 m.l]⟩ from ?_) a w (hs.wkS [8, 9, 10, 22] [0, 1, 2, 3, 4, 5] [0] rfl rfl rfl rfl)
  clear hs hL
  refine TA_step htb (by kernel_rfl) rfl rfl (OpT_storeC (cs' := [vI split1.1]) rfl rfl rfl rfl tyF37 (i := 4) rfl rfl rfl (one_of rfl) rfl) ?_
  refine TA_end rfl ?_
  refine Tk_wkS (fr' := [(8, some (.pointer (some ⟨b4, 0, none⟩))), (9, some (.pointer (some ⟨b5, 0, none⟩))), (10, some (.pointer (some ⟨b6, 0, none⟩)))]) (own' := [some (cellsR b_m 113 [vm1, vm2]), some (rowsX u8S true vm2 vsm1 m.b none), some (cellsR b4 41 [v1]), some (cellsR b5 3 [vI split1.2.1]), some (cellsR b6 37 [vI split1.1]), some (rowS SegS v1 split1.2.2.2)]) (shr' := [Fact.sl RegionS vm1 m.l]) [8, 9, 10] [0, 1, 2, 3, 4, 5] [0] rfl rfl rfl rfl ?_
  obtain rfl := Option.some.inj h
  exact Tk_retV rfl rfl (resA (vs := [v1, vI split1.2.1, vI split1.1]) rfl ⟨⟨_, 2, _, _, _, rfl, rfl, .inr ⟨tyF41, rfl⟩⟩, ⟨_, 3, _, _, _, rfl, rfl, .inr ⟨tyF3, rfl⟩⟩, ⟨_, 4, _, _, _, rfl, rfl, .inr ⟨tyF37, rfl⟩⟩, trivial⟩) [0, 1, 5] [] rfl rfl rfl ⟨v1, rfl, rfl, rfl⟩

set_option maxRecDepth 100000 in
set_option maxHeartbeats 4000000 in
theorem wb_seg_Check_1 {arg0 : Int} {arg1 : UInt64} {b_arg0 : Nat} {b_arg1 : Nat} {r : Int} (h : seg_Check_1 arg0 arg1 = some r) :
  BodyOk Try.prog 102 [.pointer (some ⟨b_arg0, 0, none⟩), .pointer (some ⟨b_arg1, 0, none⟩)] [(cellsR b_arg0 37 [vI arg0]), (cellsR b_arg1 27 [vU64 arg1])] []
   (fun rv own shr => rv = .tuple #[] ∧ own = [(cellsR b_arg0 37 [vI r]), (cellsR b_arg1 27 [vU64 arg1])] ∧ shr = []) := by
 unfold seg_Check_1 at h
 refine BodyOk.mk Try.func102 rfl rfl (fun R0 w0 B => ?_)
 refine Tk_seq (Tk_region (Tops_step rfl (OpT_loadC rfl rfl rfl rfl tyF37 (i := 0) rfl rfl) ?_))
 refine Tops_step rfl (OpT_bin rfl rfl rfl rfl rfl (bin_eql_i (a := arg0) (b := (0 : Int)))) ?_
 refine Tops_step rfl (OpT_move rfl rfl rfl rfl) ?_
 rcases Bool.eq_false_or_eq_true (arg0 == (0 : Int)) with hg1 | hg1
 ·replace h := br_t hg1 h
  refine Tops_yes rfl rfl (congrArg (fun b => some (Value.bool b)) hg1) (OpT_loadC rfl rfl rfl rfl tyF27 (i := 1) rfl rfl) ?_
  rintro _ rfl
  refine Tops_yes rfl rfl (congrArg (fun b => some (Value.bool b)) hg1) (OpT_bin rfl rfl rfl rfl rfl (bin_geq_u64 (a := arg1) (b := (4294967296 : UInt64)))) ?_
  rintro _ rfl
  refine Tops_step rfl (OpT_pickT rfl rfl rfl (congrArg (fun b => some (Value.bool b)) hg1) rfl) ?_
  refine Tops_nil (Tk_wkS (fr' := [(0, some (.pointer (some ⟨b_arg0, 0, none⟩))), (7, some (vB (decide (arg1 ≥ (4294967296 : UInt64)))))]) (own' := [some (cellsR b_arg0 37 [vI arg0]), some (cellsR b_arg1 27 [vU64 arg1])]) (shr' := []) [0, 7] [0, 1] [] rfl rfl rfl rfl ?_)
  rcases Bool.eq_false_or_eq_true (decide (arg1 ≥ (4294967296 : UInt64))) with hg2 | hg2
  ·replace h := br_t hg2 h
   refine Tk_condT (congrArg (fun b => some (Value.bool b)) hg2) ?_
   refine Tk_region (Tops_step rfl (OpT_storeC (cs' := [vI (2 : Int)]) rfl rfl rfl rfl tyF37 (i := 0) rfl rfl rfl (one_of rfl) rfl) ?_)
   refine Tops_nil ?_
   obtain rfl := Option.some.inj h
   exact Tk_endV rfl rfl (resA (vs := []) rfl trivial) [0, 1] [] rfl rfl rfl ⟨rfl, rfl, rfl⟩
  ·replace h := br_f hg2 h
   refine Tk_condF (congrArg (fun b => some (Value.bool b)) hg2) ?_
   refine Tk_skip ?_
   obtain rfl := Option.some.inj h
   exact Tk_endV rfl rfl (resA (vs := []) rfl trivial) [0, 1] [] rfl rfl rfl ⟨rfl, rfl, rfl⟩
 ·replace h := br_f hg1 h
  refine Tops_no rfl rfl (congrArg (fun b => some (Value.bool b)) hg1) rfl rfl ?_
  refine Tops_no rfl rfl (congrArg (fun b => some (Value.bool b)) hg1) rfl rfl ?_
  refine Tops_step rfl (OpT_pickF rfl rfl rfl (congrArg (fun b => some (Value.bool b)) hg1) rfl) ?_
  refine Tops_nil (Tk_wkS (fr' := [(0, some (.pointer (some ⟨b_arg0, 0, none⟩))), (7, some (vB false))]) (own' := [some (cellsR b_arg0 37 [vI arg0]), some (cellsR b_arg1 27 [vU64 arg1])]) (shr' := []) [0, 7] [0, 1] [] rfl rfl rfl rfl ?_)
  refine Tk_condF rfl ?_
  refine Tk_skip ?_
  obtain rfl := Option.some.inj h
  exact Tk_endV rfl rfl (resA (vs := []) rfl trivial) [0, 1] [] rfl rfl rfl ⟨rfl, rfl, rfl⟩

set_option maxRecDepth 100000 in
set_option maxHeartbeats 4000000 in
theorem w_seg_Check {l : List Seg} {vl1 : Value} {r : Int} (h : seg_Check l = some r) :
  Ctr Try.prog 62 #[vl1] [] [Fact.sl SegS vl1 l]
   (fun rv own shr => rv = vI r ∧ own = [] ∧ shr = []) := by
 unfold seg_Check at h
 refine Ctr.mkD (args := [vl1]) Try.func62 rfl rfl (fun R0 w0 B => ?_)
 refine Tk_seq (Tk_region (Tops_ex rfl (OpT_alloc rfl rfl rfl tyZ37) fun b1 => ?_))
 refine Tops_nil (Tk_seq (Tk_seq (Tk_region (Tops_step rfl (OpT_move rfl rfl rfl rfl) ?_))))
 refine Tops_step rfl (OpT_lenS rfl rfl rfl rfl Try.underlying41 (i := 0) rfl) ?_
 refine Tops_step rfl (OpT_bin rfl rfl rfl rfl rfl (bin_gtr_i (a := len l) (b := (64 : Int)))) ?_
 refine Tops_nil (Tk_wkS (fr' := [(0, some (vl1)), (2, some (.pointer (some ⟨b1, 0, none⟩))), (8, some (vB (decide ((len l) > (64 : Int)))))]) (own' := [some (cellsR b1 37 [vI (0 : Int)])]) (shr' := [Fact.sl SegS vl1 l]) [0, 2, 8] [0] [0] rfl rfl rfl rfl ?_)
 rcases Bool.eq_false_or_eq_true (decide ((len l) > (64 : Int))) with hg1 | hg1
 ·replace h := br_t hg1 h
  refine Tk_condT (congrArg (fun b => some (Value.bool b)) hg1) ?_
  refine Tk_seq (Tk_region (Tops_step rfl (OpT_storeC (cs' := [vI (3 : Int)]) rfl rfl rfl rfl tyF37 (i := 0) rfl rfl rfl (one_of rfl) rfl) ?_))
  refine Tops_nil (Tk_wkS (fr' := [(2, some (.pointer (some ⟨b1, 0, none⟩)))]) (own' := [some (cellsR b1 37 [vI (3 : Int)])]) (shr' := []) [2] [0] [] rfl rfl rfl rfl ?_)
  obtain rfl := Option.some.inj h
  refine Tk_retE rfl rfl ?_
  exact Tleave_mk (resA (vs := [vI (3 : Int)]) rfl ⟨⟨_, 0, _, _, _, rfl, rfl, .inr ⟨tyF37, rfl⟩⟩, trivial⟩) [] [] rfl rfl rfl ⟨rfl, rfl, rfl⟩
 ·replace h := br_f hg1 h
  refine Tk_condF (congrArg (fun b => some (Value.bool b)) hg1) ?_
  refine Tk_skip (Tk_seq (Tk_region (Tops_ex rfl (OpT_alloc rfl rfl rfl tyZ27) fun b2 => ?_)))
  refine Tops_step rfl (OpT_storeC (cs' := [vU64 (0 : UInt64)]) rfl rfl rfl rfl tyF27 (i := 1) rfl rfl rfl (one_of rfl) rfl) ?_
  refine Tops_nil (Tk_wkS (fr' := [(0, some (vl1)), (2, some (.pointer (some ⟨b1, 0, none⟩))), (3, some (.pointer (some ⟨b2, 0, none⟩)))]) (own' := [some (cellsR b1 37 [vI (0 : Int)]), some (cellsR b2 27 [vU64 (0 : UInt64)])]) (shr' := [Fact.sl SegS vl1 l]) [0, 2, 3] [0, 1] [0] rfl rfl rfl rfl ?_)
  refine Tk_seq (Tk_region (Tops_step rfl (OpT_makeFunc (vs := [.pointer (some ⟨b1, 0, none⟩), .pointer (some ⟨b2, 0, none⟩)]) rfl rfl rfl rfl) ?_))
  refine Tops_defer (f := 102) (cp := [.pointer (some ⟨b1, 0, none⟩), .pointer (some ⟨b2, 0, none⟩)]) rfl rfl rfl rfl ?_
  refine Tops_nil (Tk_wkS (fr' := [(0, some (vl1)), (2, some (.pointer (some ⟨b1, 0, none⟩))), (3, some (.pointer (some ⟨b2, 0, none⟩)))]) (own' := [some (cellsR b1 37 [vI (0 : Int)]), some (cellsR b2 27 [vU64 (0 : UInt64)])]) (shr' := [Fact.sl SegS vl1 l]) [0, 2, 3] [0, 1] [0] rfl rfl rfl rfl ?_)
  refine Tk_seq (Tk_seq (Tk_region (Tops_step rfl (OpT_move rfl rfl rfl rfl) ?_)))
  refine Tops_step rfl (OpT_lenS rfl rfl rfl rfl Try.underlying41 (i := 0) rfl) ?_
  refine Tops_step rfl (OpT_move rfl rfl rfl rfl) ?_
  refine Tops_nil (Tk_block (Tk_loopS (σ := Int × UInt64 × Int) [0, 2, 3, 10, 11, 12] [0, 1] [0] (fun s => ⟨[(0, some (vl1)), (2, some (.pointer (some ⟨b1, 0, none⟩))), (3, some (.pointer (some ⟨b2, 0, none⟩))), (10, some (vl1)), (11, some (vI (len l))), (12, some (vI s.2.2))], [some (cellsR b1 37 [vI s.1]), some (cellsR b2 27 [vU64 s.2.1])], [Fact.sl SegS vl1 l]⟩) (fun nf1 s => seg_CheckL1 l nf1 s.1 s.2.1 s.2.2 = some r) fuel ((0 : Int), (0 : UInt64), (0 : Int)) h rfl rfl rfl rfl rfl (fun s h => by cases h) ?_))
  rintro nf1 ⟨m1, m2, x1⟩ h
  replace h : seg_CheckL1B l (seg_CheckL1 l nf1) m1 m2 x1 = some r := h
  unfold seg_CheckL1B at h
  refine Tk_seq (Tk_region (Tops_step rfl (OpT_bin rfl rfl rfl rfl rfl (bin_lss_i (a := x1) (b := len l))) ?_))
  refine Tops_nil (Tk_seq ?_)
  rcases Bool.eq_false_or_eq_true (decide (x1 < (len l))) with hg2 | hg2
  ·replace h := br_t hg2 h
   refine Tk_condT (congrArg (fun b => some (Value.bool b)) hg2) ?_
   refine Tk_skip (Tk_seq (Tk_block (Tk_seq (Tk_region (Tops_step rfl (OpT_move rfl rfl rfl rfl) ?_)))))
   obtain ⟨s1, hx1, h⟩ := ob_e h
   refine Tops_ex rfl (OpT_idxS rfl rfl rfl rfl rfl slF41 (i := 0) rfl hx1) fun p1 => ?_
   refine Tops_step rfl (OpT_loadPA (vs := [vU64 s1.At, vU32 s1.Len, vB s1.Write]) rfl rfl rfl rfl tyF46 (i := 1) rfl rfl) ?_
   refine Tops_ex rfl (OpT_alloc rfl rfl rfl tyZ46) fun b3 => ?_
   refine Tops_step rfl (OpT_assign rfl rfl rfl rfl) ?_
   refine Tops_step rfl (OpT_storeC (cs' := [vU64 s1.At, vU32 s1.Len, vB s1.Write]) rfl rfl rfl rfl tyF46 (i := 2) rfl rfl rfl (one_of rfl) rfl) ?_
   refine Tops_nil (Tk_wkS (fr' := [(0, some (vl1)), (2, some (.pointer (some ⟨b1, 0, none⟩))), (3, some (.pointer (some ⟨b2, 0, none⟩))), (10, some (vl1)), (11, some (vI (len l))), (12, some (vI x1)), (5, some (.pointer (some ⟨b3, 0, none⟩))), (4, some (vI x1))]) (own' := [some (cellsR b1 37 [vI m1]), some (cellsR b2 27 [vU64 m2]), some (cellsR b3 46 [vU64 s1.At, vU32 s1.Len, vB s1.Write])]) (shr' := [Fact.sl SegS vl1 l]) [0, 2, 3, 10, 11, 12, 5, 4] [0, 1, 2] [0] rfl rfl rfl rfl ?_)
   refine Tk_seq (Tk_seq (Tk_region (Tops_step rfl (OpT_fieldC rfl rfl rfl rfl fldF46x1) ?_)))
   refine Tops_step rfl (OpT_loadC rfl rfl rfl rfl tyF33 (i := 2) rfl rfl) ?_
   refine Tops_step rfl (OpT_bin rfl rfl rfl rfl rfl (bin_lss_u32 (a := s1.Len) (b := (1 : UInt32)))) ?_
   refine Tops_step rfl (OpT_move rfl rfl rfl rfl) ?_
   rcases Bool.eq_false_or_eq_true (decide (s1.Len < (1 : UInt32))) with hg3 | hg3
   ·replace h := br_t hg3 h
    refine Tops_no rfl rfl (congrArg (fun b => some (Value.bool b)) hg3) rfl rfl ?_
    refine Tops_no rfl rfl (congrArg (fun b => some (Value.bool b)) hg3) rfl rfl ?_
    refine Tops_no rfl rfl (congrArg (fun b => some (Value.bool b)) hg3) rfl rfl ?_
    refine Tops_no rfl rfl (congrArg (fun b => some (Value.bool b)) hg3) rfl rfl ?_
    refine Tops_no rfl rfl (congrArg (fun b => some (Value.bool b)) hg3) rfl rfl ?_
    refine Tops_no rfl rfl (congrArg (fun b => some (Value.bool b)) hg3) rfl rfl ?_
    refine Tops_no rfl rfl (congrArg (fun b => some (Value.bool b)) hg3) rfl rfl ?_
    refine Tops_no rfl rfl (congrArg (fun b => some (Value.bool b)) hg3) rfl rfl ?_
    refine Tops_step rfl (OpT_pickT rfl rfl rfl (congrArg (fun b => some (Value.bool b)) hg3) rfl) ?_
    refine Tops_step rfl (OpT_move rfl rfl rfl rfl) ?_
    refine Tops_no rfl rfl rfl rfl rfl ?_
    refine Tops_no rfl rfl rfl rfl rfl ?_
    refine Tops_no rfl rfl rfl rfl rfl ?_
    refine Tops_noU rfl rfl rfl rfl rfl ?_
    refine Tops_noU rfl rfl rfl rfl rfl ?_
    refine Tops_noU rfl rfl rfl rfl rfl ?_
    refine Tops_noU rfl rfl rfl rfl rfl ?_
    refine Tops_noU rfl rfl rfl rfl rfl ?_
    refine Tops_noU rfl rfl rfl rfl rfl ?_
    refine Tops_no rfl rfl rfl rfl rfl ?_
    refine Tops_no rfl rfl rfl rfl rfl ?_
    refine Tops_noU rfl rfl rfl rfl rfl ?_
    refine Tops_noU rfl rfl rfl rfl rfl ?_
    refine Tops_noU rfl rfl rfl rfl rfl ?_
    refine Tops_no rfl rfl rfl rfl rfl ?_
    refine Tops_step rfl (OpT_pickT rfl rfl rfl rfl rfl) ?_
    refine Tops_nil (Tk_wkS (fr' := [(0, some (vl1)), (2, some (.pointer (some ⟨b1, 0, none⟩))), (3, some (.pointer (some ⟨b2, 0, none⟩))), (10, some (vl1)), (11, some (vI (len l))), (12, some (vI x1)), (5, some (.pointer (some ⟨b3, 0, none⟩))), (46, some (vB true))]) (own' := [some (cellsR b1 37 [vI m1]), some (cellsR b2 27 [vU64 m2]), some (cellsR b3 46 [vU64 s1.At, vU32 s1.Len, vB s1.Write])]) (shr' := [Fact.sl SegS vl1 l]) [0, 2, 3, 10, 11, 12, 5, 46] [0, 1, 2] [0] rfl rfl rfl rfl ?_)
    refine Tk_condT rfl ?_
    refine Tk_seq (Tk_region (Tops_step rfl (OpT_storeC (cs' := [vI (2 : Int)]) rfl rfl rfl rfl tyF37 (i := 0) rfl rfl rfl (one_of rfl) rfl) ?_))
    refine Tops_nil (Tk_wkS (fr' := [(2, some (.pointer (some ⟨b1, 0, none⟩)))]) (own' := [some (cellsR b1 37 [vI (2 : Int)]), some (cellsR b2 27 [vU64 m2])]) (shr' := []) [2] [0, 1] [] rfl rfl rfl rfl ?_)
    obtain ⟨check1, hx2, h⟩ := ob_e h
    obtain rfl := Option.some.inj h
    refine Tk_retD rfl (f := 102) (cp := [.pointer (some ⟨b1, 0, none⟩), .pointer (some ⟨b2, 0, none⟩)]) rfl callee102 (wb_seg_Check_1 hx2).ctrD [0, 1] [] rfl rfl rfl ?_
    rintro _ _ _ ⟨rfl, rfl, rfl⟩
    exact Tleave_mk (resA (vs := [vI check1]) rfl ⟨⟨_, 2, _, _, _, rfl, rfl, .inr ⟨tyF37, rfl⟩⟩, trivial⟩) [] [] rfl rfl rfl ⟨rfl, rfl, rfl⟩
   ·replace h := br_f hg3 h
    refine Tops_yes rfl rfl (congrArg (fun b => some (Value.bool b)) hg3) (OpT_fieldC rfl rfl rfl rfl fldF46x1) ?_
    rintro _ rfl
    refine Tops_yes rfl rfl (congrArg (fun b => some (Value.bool b)) hg3) (OpT_loadC rfl rfl rfl rfl tyF33 (i := 2) rfl rfl) ?_
    rintro _ rfl
    refine Tops_yes rfl rfl (congrArg (fun b => some (Value.bool b)) hg3) (OpT_cnv rfl rfl rfl rfl (cnv_u32_u64 (n := s1.Len) Try.underlying33 Try.underlying27)) ?_
    rintro _ rfl
    refine Tops_yes rfl rfl (congrArg (fun b => some (Value.bool b)) hg3) (OpT_bin rfl rfl rfl rfl rfl (bin_sub_u64 (a := s1.Len.toUInt64) (b := (1 : UInt64)))) ?_
    rintro _ rfl
    refine Tops_yes rfl rfl (congrArg (fun b => some (Value.bool b)) hg3) (OpT_fieldC rfl rfl rfl rfl fldF46x0) ?_
    rintro _ rfl
    refine Tops_yes rfl rfl (congrArg (fun b => some (Value.bool b)) hg3) (OpT_loadC rfl rfl rfl rfl tyF27 (i := 2) rfl rfl) ?_
    rintro _ rfl
    refine Tops_yes rfl rfl (congrArg (fun b => some (Value.bool b)) hg3) (OpT_bin rfl rfl rfl rfl rfl (bin_sub_u64 (a := (18446744073709551615 : UInt64)) (b := s1.At))) ?_
    rintro _ rfl
    refine Tops_yes rfl rfl (congrArg (fun b => some (Value.bool b)) hg3) (OpT_bin rfl rfl rfl rfl rfl (bin_gtr_u64 (a := s1.Len.toUInt64 - (1 : UInt64)) (b := (18446744073709551615 : UInt64) - s1.At))) ?_
    rintro _ rfl
    refine Tops_step rfl (OpT_pickF rfl rfl rfl (congrArg (fun b => some (Value.bool b)) hg3) rfl) ?_
    refine Tops_step rfl (OpT_move rfl rfl rfl rfl) ?_
    rcases Bool.eq_false_or_eq_true (decide ((s1.Len.toUInt64 - (1 : UInt64)) > ((18446744073709551615 : UInt64) - s1.At))) with hg4 | hg4
    ·replace h := br_t hg4 h
     refine Tops_no rfl rfl (congrArg (fun b => some (Value.bool b)) hg4) rfl rfl ?_
     refine Tops_no rfl rfl (congrArg (fun b => some (Value.bool b)) hg4) rfl rfl ?_
     refine Tops_no rfl rfl (congrArg (fun b => some (Value.bool b)) hg4) rfl rfl ?_
     refine Tops_noU rfl rfl rfl rfl rfl ?_
     refine Tops_noU rfl rfl rfl rfl rfl ?_
     refine Tops_noU rfl rfl rfl rfl rfl ?_
     refine Tops_noU rfl rfl rfl rfl rfl ?_
     refine Tops_noU rfl rfl rfl rfl rfl ?_
     refine Tops_noU rfl rfl rfl rfl rfl ?_
     refine Tops_no rfl rfl (congrArg (fun b => some (Value.bool b)) hg4) rfl rfl ?_
     refine Tops_no rfl rfl (congrArg (fun b => some (Value.bool b)) hg4) rfl rfl ?_
     refine Tops_noU rfl rfl rfl rfl rfl ?_
     refine Tops_noU rfl rfl rfl rfl rfl ?_
     refine Tops_noU rfl rfl rfl rfl rfl ?_
     refine Tops_no rfl rfl (congrArg (fun b => some (Value.bool b)) hg4) rfl rfl ?_
     refine Tops_step rfl (OpT_pickT rfl rfl rfl (congrArg (fun b => some (Value.bool b)) hg4) rfl) ?_
     refine Tops_nil (Tk_wkS (fr' := [(0, some (vl1)), (2, some (.pointer (some ⟨b1, 0, none⟩))), (3, some (.pointer (some ⟨b2, 0, none⟩))), (10, some (vl1)), (11, some (vI (len l))), (12, some (vI x1)), (5, some (.pointer (some ⟨b3, 0, none⟩))), (46, some (vB true))]) (own' := [some (cellsR b1 37 [vI m1]), some (cellsR b2 27 [vU64 m2]), some (cellsR b3 46 [vU64 s1.At, vU32 s1.Len, vB s1.Write])]) (shr' := [Fact.sl SegS vl1 l]) [0, 2, 3, 10, 11, 12, 5, 46] [0, 1, 2] [0] rfl rfl rfl rfl ?_)
     refine Tk_condT rfl ?_
     refine Tk_seq (Tk_region (Tops_step rfl (OpT_storeC (cs' := [vI (2 : Int)]) rfl rfl rfl rfl tyF37 (i := 0) rfl rfl rfl (one_of rfl) rfl) ?_))
     refine Tops_nil (Tk_wkS (fr' := [(2, some (.pointer (some ⟨b1, 0, none⟩)))]) (own' := [some (cellsR b1 37 [vI (2 : Int)]), some (cellsR b2 27 [vU64 m2])]) (shr' := []) [2] [0, 1] [] rfl rfl rfl rfl ?_)
     obtain ⟨check2, hx3, h⟩ := ob_e h
     obtain rfl := Option.some.inj h
     refine Tk_retD rfl (f := 102) (cp := [.pointer (some ⟨b1, 0, none⟩), .pointer (some ⟨b2, 0, none⟩)]) rfl callee102 (wb_seg_Check_1 hx3).ctrD [0, 1] [] rfl rfl rfl ?_
     rintro _ _ _ ⟨rfl, rfl, rfl⟩
     exact Tleave_mk (resA (vs := [vI check2]) rfl ⟨⟨_, 2, _, _, _, rfl, rfl, .inr ⟨tyF37, rfl⟩⟩, trivial⟩) [] [] rfl rfl rfl ⟨rfl, rfl, rfl⟩
    ·replace h := br_f hg4 h
     refine Tops_yes rfl rfl (congrArg (fun b => some (Value.bool b)) hg4) (OpT_move rfl rfl rfl rfl) ?_
     rintro _ rfl
     refine Tops_yes rfl rfl (congrArg (fun b => some (Value.bool b)) hg4) (OpT_bin rfl rfl rfl rfl rfl (bin_gtr_i (a := x1) (b := (0 : Int)))) ?_
     rintro _ rfl
     refine Tops_yes rfl rfl (congrArg (fun b => some (Value.bool b)) hg4) (OpT_move rfl rfl rfl rfl) ?_
     rintro _ rfl
     rcases Bool.eq_false_or_eq_true (decide (x1 > (0 : Int))) with hg5 | hg5
     ·replace h := br_t hg5 h
      refine Tops_yes rfl rfl (congrArg (fun b => some (Value.bool b)) hg5) (OpT_move rfl rfl rfl rfl) ?_
      rintro _ rfl
      refine Tops_yes rfl rfl (congrArg (fun b => some (Value.bool b)) hg5) (OpT_move rfl rfl rfl rfl) ?_
      rintro _ rfl
      refine Tops_yes rfl rfl (congrArg (fun b => some (Value.bool b)) hg5) (OpT_bin rfl rfl rfl rfl rfl (bin_sub_i (a := x1) (b := (1 : Int)))) ?_
      rintro _ rfl
      obtain ⟨s2, hx4, h⟩ := ob_e h
      refine Tops_yes rfl rfl (congrArg (fun b => some (Value.bool b)) hg5) (OpT_idxS rfl rfl rfl rfl rfl slF41 (i := 0) rfl hx4) ?_
      rintro _ ⟨p2, rfl⟩
      refine Tops_yes rfl rfl (congrArg (fun b => some (Value.bool b)) hg5) (OpT_fieldP (S' := bS) (y := s2.Write) rfl rfl rfl rfl fldF46x2 (i := 1) rfl (by intro h cs hr; subst hr; rfl)) ?_
      rintro _ ⟨p3, rfl⟩
      refine Tops_yes rfl rfl (congrArg (fun b => some (Value.bool b)) hg5) (OpT_loadP rfl rfl rfl rfl tyF4 (i := 2) rfl rfl) ?_
      rintro _ rfl
      refine Tops_yes rfl rfl (congrArg (fun b => some (Value.bool b)) hg4) (OpT_pickT rfl rfl rfl (congrArg (fun b => some (Value.bool b)) hg5) rfl) ?_
      rintro _ rfl
      refine Tops_yes rfl rfl (congrArg (fun b => some (Value.bool b)) hg4) (OpT_move rfl rfl rfl rfl) ?_
      rintro _ rfl
      rcases Bool.eq_false_or_eq_true (s2.Write) with hg6 | hg6
      ·replace h := br_t hg6 h
       refine Tops_yes rfl rfl (congrArg (fun b => some (Value.bool b)) hg6) (OpT_fieldC rfl rfl rfl rfl fldF46x2) ?_
       rintro _ rfl
       refine Tops_yes rfl rfl (congrArg (fun b => some (Value.bool b)) hg6) (OpT_loadC rfl rfl rfl rfl tyF4 (i := 2) rfl rfl) ?_
       rintro _ rfl
       refine Tops_yes rfl rfl (congrArg (fun b => some (Value.bool b)) hg6) (OpT_not rfl rfl rfl rfl) ?_
       rintro _ rfl
       refine Tops_yes rfl rfl (congrArg (fun b => some (Value.bool b)) hg4) (OpT_pickT rfl rfl rfl (congrArg (fun b => some (Value.bool b)) hg6) rfl) ?_
       rintro _ rfl
       refine Tops_step rfl (OpT_pickF rfl rfl rfl (congrArg (fun b => some (Value.bool b)) hg4) rfl) ?_
       refine Tops_nil (Tk_wkS (fr' := [(0, some (vl1)), (2, some (.pointer (some ⟨b1, 0, none⟩))), (3, some (.pointer (some ⟨b2, 0, none⟩))), (10, some (vl1)), (11, some (vI (len l))), (12, some (vI x1)), (5, some (.pointer (some ⟨b3, 0, none⟩))), (46, some (vB (!s1.Write)))]) (own' := [some (cellsR b1 37 [vI m1]), some (cellsR b2 27 [vU64 m2]), some (cellsR b3 46 [vU64 s1.At, vU32 s1.Len, vB s1.Write])]) (shr' := [Fact.sl SegS vl1 l]) [0, 2, 3, 10, 11, 12, 5, 46] [0, 1, 2] [0] rfl rfl rfl rfl ?_)
       rcases Bool.eq_false_or_eq_true ((!s1.Write)) with hg7 | hg7
       ·replace h := br_t hg7 h
        refine Tk_condT (congrArg (fun b => some (Value.bool b)) hg7) ?_
        refine Tk_seq (Tk_region (Tops_step rfl (OpT_storeC (cs' := [vI (2 : Int)]) rfl rfl rfl rfl tyF37 (i := 0) rfl rfl rfl (one_of rfl) rfl) ?_))
        refine Tops_nil (Tk_wkS (fr' := [(2, some (.pointer (some ⟨b1, 0, none⟩)))]) (own' := [some (cellsR b1 37 [vI (2 : Int)]), some (cellsR b2 27 [vU64 m2])]) (shr' := []) [2] [0, 1] [] rfl rfl rfl rfl ?_)
        obtain ⟨check3, hx5, h⟩ := ob_e h
        obtain rfl := Option.some.inj h
        refine Tk_retD rfl (f := 102) (cp := [.pointer (some ⟨b1, 0, none⟩), .pointer (some ⟨b2, 0, none⟩)]) rfl callee102 (wb_seg_Check_1 hx5).ctrD [0, 1] [] rfl rfl rfl ?_
        rintro _ _ _ ⟨rfl, rfl, rfl⟩
        exact Tleave_mk (resA (vs := [vI check3]) rfl ⟨⟨_, 2, _, _, _, rfl, rfl, .inr ⟨tyF37, rfl⟩⟩, trivial⟩) [] [] rfl rfl rfl ⟨rfl, rfl, rfl⟩
       ·replace h := br_f hg7 h
        refine Tk_condF (congrArg (fun b => some (Value.bool b)) hg7) ?_
        refine Tk_skip (Tk_region (Tops_step rfl (OpT_loadC rfl rfl rfl rfl tyF27 (i := 1) rfl rfl) ?_))
        refine Tops_step rfl (OpT_fieldC rfl rfl rfl rfl fldF46x1) ?_
        refine Tops_step rfl (OpT_loadC rfl rfl rfl rfl tyF33 (i := 2) rfl rfl) ?_
        refine Tops_step rfl (OpT_cnv rfl rfl rfl rfl (cnv_u32_u64 (n := s1.Len) Try.underlying33 Try.underlying27)) ?_
        refine Tops_step rfl (OpT_bin rfl rfl rfl rfl rfl (bin_add_u64 (a := m2) (b := s1.Len.toUInt64))) ?_
        refine Tops_step rfl (OpT_storeC (cs' := [vU64 (m2 + s1.Len.toUInt64)]) rfl rfl rfl rfl tyF27 (i := 1) rfl rfl rfl (one_of rfl) rfl) ?_
        refine Tops_nil (Tk_wkS (fr' := [(0, some (vl1)), (2, some (.pointer (some ⟨b1, 0, none⟩))), (3, some (.pointer (some ⟨b2, 0, none⟩))), (10, some (vl1)), (11, some (vI (len l))), (12, some (vI x1))]) (own' := [some (cellsR b1 37 [vI m1]), some (cellsR b2 27 [vU64 (m2 + s1.Len.toUInt64)])]) (shr' := [Fact.sl SegS vl1 l]) [0, 2, 3, 10, 11, 12] [0, 1] [0] rfl rfl rfl rfl ?_)
        refine Tk_blk (Tk_region (Tops_step rfl (OpT_bin rfl rfl rfl rfl rfl (bin_add_i (a := x1) (b := (1 : Int)))) ?_))
        refine Tops_step rfl (OpT_move rfl rfl rfl rfl) ?_
        refine Tops_nil (Tk_wkS (fr' := [(0, some (vl1)), (2, some (.pointer (some ⟨b1, 0, none⟩))), (3, some (.pointer (some ⟨b2, 0, none⟩))), (10, some (vl1)), (11, some (vI (len l))), (12, some (vI (wi (x1 + (1 : Int)))))]) (own' := [some (cellsR b1 37 [vI m1]), some (cellsR b2 27 [vU64 (m2 + s1.Len.toUInt64)])]) (shr' := [Fact.sl SegS vl1 l]) [0, 2, 3, 10, 11, 12] [0, 1] [0] rfl rfl rfl rfl ?_)
        exact Tk_backS (m1, m2 + s1.Len.toUInt64, wi (x1 + (1 : Int))) h [0, 2, 3, 10, 11, 12] [0, 1] [0] rfl rfl rfl rfl rfl
      ·replace h := br_f hg6 h
       refine Tops_no rfl rfl (congrArg (fun b => some (Value.bool b)) hg6) rfl rfl ?_
       refine Tops_no rfl rfl (congrArg (fun b => some (Value.bool b)) hg6) rfl rfl ?_
       refine Tops_no rfl rfl (congrArg (fun b => some (Value.bool b)) hg6) rfl rfl ?_
       refine Tops_yes rfl rfl (congrArg (fun b => some (Value.bool b)) hg4) (OpT_pickF rfl rfl rfl (congrArg (fun b => some (Value.bool b)) hg6) rfl) ?_
       rintro _ rfl
       refine Tops_step rfl (OpT_pickF rfl rfl rfl (congrArg (fun b => some (Value.bool b)) hg4) rfl) ?_
       refine Tops_nil (Tk_wkS (fr' := [(0, some (vl1)), (2, some (.pointer (some ⟨b1, 0, none⟩))), (3, some (.pointer (some ⟨b2, 0, none⟩))), (10, some (vl1)), (11, some (vI (len l))), (12, some (vI x1)), (5, some (.pointer (some ⟨b3, 0, none⟩))), (46, some (vB false))]) (own' := [some (cellsR b1 37 [vI m1]), some (cellsR b2 27 [vU64 m2]), some (cellsR b3 46 [vU64 s1.At, vU32 s1.Len, vB s1.Write])]) (shr' := [Fact.sl SegS vl1 l]) [0, 2, 3, 10, 11, 12, 5, 46] [0, 1, 2] [0] rfl rfl rfl rfl ?_)
       refine Tk_condF rfl ?_
       refine Tk_skip (Tk_region (Tops_step rfl (OpT_loadC rfl rfl rfl rfl tyF27 (i := 1) rfl rfl) ?_))
       refine Tops_step rfl (OpT_fieldC rfl rfl rfl rfl fldF46x1) ?_
       refine Tops_step rfl (OpT_loadC rfl rfl rfl rfl tyF33 (i := 2) rfl rfl) ?_
       refine Tops_step rfl (OpT_cnv rfl rfl rfl rfl (cnv_u32_u64 (n := s1.Len) Try.underlying33 Try.underlying27)) ?_
       refine Tops_step rfl (OpT_bin rfl rfl rfl rfl rfl (bin_add_u64 (a := m2) (b := s1.Len.toUInt64))) ?_
       refine Tops_step rfl (OpT_storeC (cs' := [vU64 (m2 + s1.Len.toUInt64)]) rfl rfl rfl rfl tyF27 (i := 1) rfl rfl rfl (one_of rfl) rfl) ?_
       refine Tops_nil (Tk_wkS (fr' := [(0, some (vl1)), (2, some (.pointer (some ⟨b1, 0, none⟩))), (3, some (.pointer (some ⟨b2, 0, none⟩))), (10, some (vl1)), (11, some (vI (len l))), (12, some (vI x1))]) (own' := [some (cellsR b1 37 [vI m1]), some (cellsR b2 27 [vU64 (m2 + s1.Len.toUInt64)])]) (shr' := [Fact.sl SegS vl1 l]) [0, 2, 3, 10, 11, 12] [0, 1] [0] rfl rfl rfl rfl ?_)
       refine Tk_blk (Tk_region (Tops_step rfl (OpT_bin rfl rfl rfl rfl rfl (bin_add_i (a := x1) (b := (1 : Int)))) ?_))
       refine Tops_step rfl (OpT_move rfl rfl rfl rfl) ?_
       refine Tops_nil (Tk_wkS (fr' := [(0, some (vl1)), (2, some (.pointer (some ⟨b1, 0, none⟩))), (3, some (.pointer (some ⟨b2, 0, none⟩))), (10, some (vl1)), (11, some (vI (len l))), (12, some (vI (wi (x1 + (1 : Int)))))]) (own' := [some (cellsR b1 37 [vI m1]), some (cellsR b2 27 [vU64 (m2 + s1.Len.toUInt64)])]) (shr' := [Fact.sl SegS vl1 l]) [0, 2, 3, 10, 11, 12] [0, 1] [0] rfl rfl rfl rfl ?_)
       exact Tk_backS (m1, m2 + s1.Len.toUInt64, wi (x1 + (1 : Int))) h [0, 2, 3, 10, 11, 12] [0, 1] [0] rfl rfl rfl rfl rfl
     ·replace h := br_f hg5 h
      refine Tops_no rfl rfl (congrArg (fun b => some (Value.bool b)) hg5) rfl rfl ?_
      refine Tops_no rfl rfl (congrArg (fun b => some (Value.bool b)) hg5) rfl rfl ?_
      refine Tops_no rfl rfl (congrArg (fun b => some (Value.bool b)) hg5) rfl rfl ?_
      refine Tops_no rfl rfl (congrArg (fun b => some (Value.bool b)) hg5) rfl rfl ?_
      refine Tops_no rfl rfl (congrArg (fun b => some (Value.bool b)) hg5) rfl rfl ?_
      refine Tops_no rfl rfl (congrArg (fun b => some (Value.bool b)) hg5) rfl rfl ?_
      refine Tops_yes rfl rfl (congrArg (fun b => some (Value.bool b)) hg4) (OpT_pickF rfl rfl rfl (congrArg (fun b => some (Value.bool b)) hg5) rfl) ?_
      rintro _ rfl
      refine Tops_yes rfl rfl (congrArg (fun b => some (Value.bool b)) hg4) (OpT_move rfl rfl rfl rfl) ?_
      rintro _ rfl
      refine Tops_no rfl rfl rfl rfl rfl ?_
      refine Tops_no rfl rfl rfl rfl rfl ?_
      refine Tops_no rfl rfl rfl rfl rfl ?_
      refine Tops_yes rfl rfl (congrArg (fun b => some (Value.bool b)) hg4) (OpT_pickF rfl rfl rfl rfl rfl) ?_
      rintro _ rfl
      refine Tops_step rfl (OpT_pickF rfl rfl rfl (congrArg (fun b => some (Value.bool b)) hg4) rfl) ?_
      refine Tops_nil (Tk_wkS (fr' := [(0, some (vl1)), (2, some (.pointer (some ⟨b1, 0, none⟩))), (3, some (.pointer (some ⟨b2, 0, none⟩))), (10, some (vl1)), (11, some (vI (len l))), (12, some (vI x1)), (5, some (.pointer (some ⟨b3, 0, none⟩))), (46, some (vB false))]) (own' := [some (cellsR b1 37 [vI m1]), some (cellsR b2 27 [vU64 m2]), some (cellsR b3 46 [vU64 s1.At, vU32 s1.Len, vB s1.Write])]) (shr' := [Fact.sl SegS vl1 l]) [0, 2, 3, 10, 11, 12, 5, 46] [0, 1, 2] [0] rfl rfl rfl rfl ?_)
      refine Tk_condF rfl ?_
      refine Tk_skip (Tk_region (Tops_step rfl (OpT_loadC rfl rfl rfl rfl tyF27 (i := 1) rfl rfl) ?_))
      refine Tops_step rfl (OpT_fieldC rfl rfl rfl rfl fldF46x1) ?_
      refine Tops_step rfl (OpT_loadC rfl rfl rfl rfl tyF33 (i := 2) rfl rfl) ?_
      refine Tops_step rfl (OpT_cnv rfl rfl rfl rfl (cnv_u32_u64 (n := s1.Len) Try.underlying33 Try.underlying27)) ?_
      refine Tops_step rfl (OpT_bin rfl rfl rfl rfl rfl (bin_add_u64 (a := m2) (b := s1.Len.toUInt64))) ?_
      refine Tops_step rfl (OpT_storeC (cs' := [vU64 (m2 + s1.Len.toUInt64)]) rfl rfl rfl rfl tyF27 (i := 1) rfl rfl rfl (one_of rfl) rfl) ?_
      refine Tops_nil (Tk_wkS (fr' := [(0, some (vl1)), (2, some (.pointer (some ⟨b1, 0, none⟩))), (3, some (.pointer (some ⟨b2, 0, none⟩))), (10, some (vl1)), (11, some (vI (len l))), (12, some (vI x1))]) (own' := [some (cellsR b1 37 [vI m1]), some (cellsR b2 27 [vU64 (m2 + s1.Len.toUInt64)])]) (shr' := [Fact.sl SegS vl1 l]) [0, 2, 3, 10, 11, 12] [0, 1] [0] rfl rfl rfl rfl ?_)
      refine Tk_blk (Tk_region (Tops_step rfl (OpT_bin rfl rfl rfl rfl rfl (bin_add_i (a := x1) (b := (1 : Int)))) ?_))
      refine Tops_step rfl (OpT_move rfl rfl rfl rfl) ?_
      refine Tops_nil (Tk_wkS (fr' := [(0, some (vl1)), (2, some (.pointer (some ⟨b1, 0, none⟩))), (3, some (.pointer (some ⟨b2, 0, none⟩))), (10, some (vl1)), (11, some (vI (len l))), (12, some (vI (wi (x1 + (1 : Int)))))]) (own' := [some (cellsR b1 37 [vI m1]), some (cellsR b2 27 [vU64 (m2 + s1.Len.toUInt64)])]) (shr' := [Fact.sl SegS vl1 l]) [0, 2, 3, 10, 11, 12] [0, 1] [0] rfl rfl rfl rfl ?_)
      exact Tk_backS (m1, m2 + s1.Len.toUInt64, wi (x1 + (1 : Int))) h [0, 2, 3, 10, 11, 12] [0, 1] [0] rfl rfl rfl rfl rfl
  ·replace h := br_f hg2 h
   refine Tk_condF (congrArg (fun b => some (Value.bool b)) hg2) ?_
   refine Tk_exit _ rfl ?_
   refine Tk_seq (Tk_region (Tops_step rfl (OpT_storeC (cs' := [vI (0 : Int)]) rfl rfl rfl rfl tyF37 (i := 0) rfl rfl rfl (one_of rfl) rfl) ?_))
   refine Tops_nil (Tk_wkS (fr' := [(2, some (.pointer (some ⟨b1, 0, none⟩)))]) (own' := [some (cellsR b1 37 [vI (0 : Int)]), some (cellsR b2 27 [vU64 m2])]) (shr' := []) [2] [0, 1] [] rfl rfl rfl rfl ?_)
   obtain ⟨check4, hx6, h⟩ := ob_e h
   obtain rfl := Option.some.inj h
   refine Tk_retD rfl (f := 102) (cp := [.pointer (some ⟨b1, 0, none⟩), .pointer (some ⟨b2, 0, none⟩)]) rfl callee102 (wb_seg_Check_1 hx6).ctrD [0, 1] [] rfl rfl rfl ?_
   rintro _ _ _ ⟨rfl, rfl, rfl⟩
   exact Tleave_mk (resA (vs := [vI check4]) rfl ⟨⟨_, 2, _, _, _, rfl, rfl, .inr ⟨tyF37, rfl⟩⟩, trivial⟩) [] [] rfl rfl rfl ⟨rfl, rfl, rfl⟩

set_option maxRecDepth 100000 in
set_option maxHeartbeats 4000000 in
theorem w_seg_In {m : gmem_Mem} {l : List Seg} {b_m : Nat} {vm1 : Value} {vm2 : Value} {vsm1 : List Value} {vl1 : Value} {r : Int} (h : seg_In m l = some r) :
  Ctr Try.prog 88 #[.pointer (some ⟨b_m, 0, none⟩), vl1] [(cellsR b_m 113 [vm1, vm2]), (rowsX u8S true vm2 vsm1 m.b none)] [Fact.sl RegionS vm1 m.l, Fact.sl SegS vl1 l]
   (fun rv own shr => rv = vI r ∧ own = [(cellsR b_m 113 [vm1, vm2]), (rowsX u8S true vm2 vsm1 m.b none)] ∧ shr = []) := by
 unfold seg_In at h
 refine Ctr.mk (args := [.pointer (some ⟨b_m, 0, none⟩), vl1]) Try.func88 rfl rfl (fun R0 w0 B => ?_)
 refine Tk_seq (Tk_region (Tops_step rfl (OpT_assign rfl rfl rfl rfl) ?_))
 refine Tops_nil (Tk_wkS (fr' := [(0, some (.pointer (some ⟨b_m, 0, none⟩))), (1, some (vl1))]) (own' := [some (cellsR b_m 113 [vm1, vm2]), some (rowsX u8S true vm2 vsm1 m.b none)]) (shr' := [Fact.sl RegionS vm1 m.l, Fact.sl SegS vl1 l]) [0, 1] [0, 1] [0, 1] rfl rfl rfl rfl ?_)
 refine Tk_seq (Tk_seq (Tk_region (Tops_step rfl (OpT_move rfl rfl rfl rfl) ?_)))
 obtain ⟨read1, hx1, h⟩ := ob_e h
 refine Tops_exP rfl (OpT_callP [2, 3, 4] (w_gmem_Mem_Read hx1) [0, 1] [0] rfl rfl rfl rfl rfl callee82 rfl rfl rfl rfl rfl) ?_
 rintro _ ⟨_, _, _, ⟨v1, rfl, rfl, rfl⟩, rfl⟩
 refine Tops_step rfl (OpT_move rfl rfl rfl rfl) ?_
 refine Tops_step rfl (OpT_extract rfl rfl rfl rfl rfl) ?_
 refine Tops_step rfl (OpT_extract rfl rfl rfl rfl rfl) ?_
 refine Tops_step rfl (OpT_assign rfl rfl rfl rfl) ?_
 refine Tops_step rfl (OpT_assign rfl rfl rfl rfl) ?_
 refine Tops_nil (Tk_wkS (fr' := [(0, some (.pointer (some ⟨b_m, 0, none⟩))), (1, some (vl1)), (6, some (vI read1.2))]) (own' := [some (cellsR b_m 113 [vm1, vm2]), some (rowsX u8S true vm2 vsm1 m.b none)]) (shr' := [Fact.sl RegionS vm1 m.l, Fact.sl SegS vl1 l]) [0, 1, 6] [0, 1] [0, 1] rfl rfl rfl rfl ?_)
 refine Tk_seq (Tk_region (Tops_step rfl (OpT_move rfl rfl rfl rfl) ?_))
 refine Tops_step rfl (OpT_bin rfl rfl rfl rfl rfl (bin_neq_i (a := read1.2) (b := (0 : Int)))) ?_
 refine Tops_nil (Tk_wkS (fr' := [(0, some (.pointer (some ⟨b_m, 0, none⟩))), (1, some (vl1)), (6, some (vI read1.2)), (16, some (vB (read1.2 != (0 : Int))))]) (own' := [some (cellsR b_m 113 [vm1, vm2]), some (rowsX u8S true vm2 vsm1 m.b none)]) (shr' := [Fact.sl RegionS vm1 m.l, Fact.sl SegS vl1 l]) [0, 1, 6, 16] [0, 1] [0, 1] rfl rfl rfl rfl ?_)
 rcases Bool.eq_false_or_eq_true (read1.2 != (0 : Int)) with hg1 | hg1
 ·replace h := br_t hg1 h
  refine Tk_condT (congrArg (fun b => some (Value.bool b)) hg1) ?_
  refine Tk_seq (Tk_region (Tops_step rfl (OpT_move rfl rfl rfl rfl) ?_))
  refine Tops_step rfl (OpT_assign rfl rfl rfl rfl) ?_
  refine Tops_nil (Tk_wkS (fr' := [(4, some (vI read1.2))]) (own' := [some (cellsR b_m 113 [vm1, vm2]), some (rowsX u8S true vm2 vsm1 m.b none)]) (shr' := [Fact.sl RegionS vm1 m.l]) [4] [0, 1] [0] rfl rfl rfl rfl ?_)
  obtain rfl := Option.some.inj h
  exact Tk_retV rfl rfl (resA (vs := [vI read1.2]) rfl ⟨rfl, trivial⟩) [0, 1] [] rfl rfl rfl ⟨rfl, rfl, rfl⟩
 ·replace h := br_f hg1 h
  refine Tk_condF (congrArg (fun b => some (Value.bool b)) hg1) ?_
  refine Tk_skip (Tk_seq (Tk_seq (Tk_region (Tops_step rfl (OpT_move rfl rfl rfl rfl) ?_))))
  obtain ⟨check1, hx2, h⟩ := ob_e h
  refine Tops_exP rfl (OpT_call (w_seg_Check hx2) [] [1] rfl rfl rfl rfl rfl callee62 rfl rfl rfl rfl) ?_
  rintro _ ⟨_, _, _, ⟨rfl, rfl, rfl⟩, rfl⟩
  refine Tops_step rfl (OpT_assign rfl rfl rfl rfl) ?_
  refine Tops_nil (Tk_wkS (fr' := [(0, some (.pointer (some ⟨b_m, 0, none⟩))), (1, some (vl1)), (7, some (vI check1))]) (own' := [some (cellsR b_m 113 [vm1, vm2]), some (rowsX u8S true vm2 vsm1 m.b none)]) (shr' := [Fact.sl RegionS vm1 m.l, Fact.sl SegS vl1 l]) [0, 1, 7] [0, 1] [0, 1] rfl rfl rfl rfl ?_)
  refine Tk_seq (Tk_region (Tops_step rfl (OpT_move rfl rfl rfl rfl) ?_))
  refine Tops_step rfl (OpT_bin rfl rfl rfl rfl rfl (bin_neq_i (a := check1) (b := (0 : Int)))) ?_
  refine Tops_nil (Tk_wkS (fr' := [(0, some (.pointer (some ⟨b_m, 0, none⟩))), (1, some (vl1)), (7, some (vI check1)), (21, some (vB (check1 != (0 : Int))))]) (own' := [some (cellsR b_m 113 [vm1, vm2]), some (rowsX u8S true vm2 vsm1 m.b none)]) (shr' := [Fact.sl RegionS vm1 m.l, Fact.sl SegS vl1 l]) [0, 1, 7, 21] [0, 1] [0, 1] rfl rfl rfl rfl ?_)
  rcases Bool.eq_false_or_eq_true (check1 != (0 : Int)) with hg2 | hg2
  ·replace h := br_t hg2 h
   refine Tk_condT (congrArg (fun b => some (Value.bool b)) hg2) ?_
   refine Tk_seq (Tk_region (Tops_step rfl (OpT_move rfl rfl rfl rfl) ?_))
   refine Tops_step rfl (OpT_assign rfl rfl rfl rfl) ?_
   refine Tops_nil (Tk_wkS (fr' := [(4, some (vI check1))]) (own' := [some (cellsR b_m 113 [vm1, vm2]), some (rowsX u8S true vm2 vsm1 m.b none)]) (shr' := [Fact.sl RegionS vm1 m.l]) [4] [0, 1] [0] rfl rfl rfl rfl ?_)
   obtain rfl := Option.some.inj h
   exact Tk_retV rfl rfl (resA (vs := [vI check1]) rfl ⟨rfl, trivial⟩) [0, 1] [] rfl rfl rfl ⟨rfl, rfl, rfl⟩
  ·replace h := br_f hg2 h
   refine Tk_condF (congrArg (fun b => some (Value.bool b)) hg2) ?_
   refine Tk_skip (Tk_seq (Tk_seq (Tk_region (Tops_step rfl (OpT_move rfl rfl rfl rfl) ?_))))
   refine Tops_step rfl (OpT_lenS rfl rfl rfl rfl Try.underlying41 (i := 1) rfl) ?_
   refine Tops_step rfl (OpT_move rfl rfl rfl rfl) ?_
   refine Tops_nil (Tk_wkS (fr' := [(0, some (.pointer (some ⟨b_m, 0, none⟩))), (23, some (vl1)), (24, some (vI (len l))), (25, some (vI (0 : Int)))]) (own' := [some (cellsR b_m 113 [vm1, vm2]), some (rowsX u8S true vm2 vsm1 m.b none)]) (shr' := [Fact.sl RegionS vm1 m.l, Fact.sl SegS vl1 l]) [0, 23, 24, 25] [0, 1] [0, 1] rfl rfl rfl rfl ?_)
   refine Tk_block (Tk_loopS (σ := Int) [0, 23, 24, 25] [0, 1] [0, 1] (fun s => ⟨[(0, some (.pointer (some ⟨b_m, 0, none⟩))), (23, some (vl1)), (24, some (vI (len l))), (25, some (vI s))], [some (cellsR b_m 113 [vm1, vm2]), some (rowsX u8S true vm2 vsm1 m.b none)], [Fact.sl RegionS vm1 m.l, Fact.sl SegS vl1 l]⟩) (fun nf1 s => seg_InL1 m l nf1 s = some r) fuel (0 : Int) h rfl rfl rfl rfl rfl (fun s h => by cases h) ?_)
   rintro nf1 x1 h
   replace h : seg_InL1B m l (seg_InL1 m l nf1) x1 = some r := h
   unfold seg_InL1B at h
   refine Tk_seq (Tk_region (Tops_step rfl (OpT_bin rfl rfl rfl rfl rfl (bin_lss_i (a := x1) (b := len l))) ?_))
   refine Tops_nil (Tk_seq ?_)
   rcases Bool.eq_false_or_eq_true (decide (x1 < (len l))) with hg3 | hg3
   ·replace h := br_t hg3 h
    refine Tk_condT (congrArg (fun b => some (Value.bool b)) hg3) ?_
    refine Tk_skip (Tk_seq (Tk_block (Tk_seq (Tk_region ?_))))
    obtain ⟨s1, hx3, h⟩ := ob_e h
    refine Tops_ex rfl (OpT_idxS rfl rfl rfl rfl rfl slF41 (i := 1) rfl hx3) fun p1 => ?_
    refine Tops_step rfl (OpT_loadPA (vs := [vU64 s1.At, vU32 s1.Len, vB s1.Write]) rfl rfl rfl rfl tyF46 (i := 2) rfl rfl) ?_
    refine Tops_ex rfl (OpT_alloc rfl rfl rfl tyZ46) fun b1 => ?_
    refine Tops_step rfl (OpT_storeC (cs' := [vU64 s1.At, vU32 s1.Len, vB s1.Write]) rfl rfl rfl rfl tyF46 (i := 2) rfl rfl rfl (one_of rfl) rfl) ?_
    refine Tops_nil (Tk_wkS (fr' := [(0, some (.pointer (some ⟨b_m, 0, none⟩))), (23, some (vl1)), (24, some (vI (len l))), (25, some (vI x1)), (9, some (.pointer (some ⟨b1, 0, none⟩)))]) (own' := [some (cellsR b_m 113 [vm1, vm2]), some (rowsX u8S true vm2 vsm1 m.b none), some (cellsR b1 46 [vU64 s1.At, vU32 s1.Len, vB s1.Write])]) (shr' := [Fact.sl RegionS vm1 m.l, Fact.sl SegS vl1 l]) [0, 23, 24, 25, 9] [0, 1, 2] [0, 1] rfl rfl rfl rfl ?_)
    refine Tk_seq (Tk_region (Tops_step rfl (OpT_move rfl rfl rfl rfl) ?_))
    refine Tops_step rfl (OpT_fieldC rfl rfl rfl rfl fldF46x0) ?_
    refine Tops_step rfl (OpT_loadC rfl rfl rfl rfl tyF27 (i := 2) rfl rfl) ?_
    refine Tops_step rfl (OpT_fieldC rfl rfl rfl rfl fldF46x1) ?_
    refine Tops_step rfl (OpT_loadC rfl rfl rfl rfl tyF33 (i := 2) rfl rfl) ?_
    refine Tops_step rfl (OpT_cnv rfl rfl rfl rfl (cnv_u32_u64 (n := s1.Len) Try.underlying33 Try.underlying27)) ?_
    obtain ⟨has1, hx4, h⟩ := ob_e h
    refine Tops_exP rfl (OpT_callP [3, 4, 2] (w_gmem_Mem_Has hx4) [0, 1] [0] rfl rfl rfl rfl rfl callee26 rfl rfl rfl rfl rfl) ?_
    rintro _ ⟨_, _, _, ⟨rfl, rfl, rfl⟩, rfl⟩
    refine Tops_step rfl (OpT_not rfl rfl rfl rfl) ?_
    refine Tops_nil (Tk_wkS (fr' := [(0, some (.pointer (some ⟨b_m, 0, none⟩))), (23, some (vl1)), (24, some (vI (len l))), (25, some (vI x1)), (36, some (vB (!has1)))]) (own' := [some (cellsR b_m 113 [vm1, vm2]), some (rowsX u8S true vm2 vsm1 m.b none)]) (shr' := [Fact.sl RegionS vm1 m.l, Fact.sl SegS vl1 l]) [0, 23, 24, 25, 36] [0, 1] [0, 1] rfl rfl rfl rfl ?_)
    rcases Bool.eq_false_or_eq_true ((!has1)) with hg4 | hg4
    ·replace h := br_t hg4 h
     refine Tk_condT (congrArg (fun b => some (Value.bool b)) hg4) ?_
     refine Tk_seq (Tk_region (Tops_step rfl (OpT_assign rfl rfl rfl rfl) ?_))
     refine Tops_nil (Tk_wkS (fr' := [(4, some (vI (5 : Int)))]) (own' := [some (cellsR b_m 113 [vm1, vm2]), some (rowsX u8S true vm2 vsm1 m.b none)]) (shr' := [Fact.sl RegionS vm1 m.l]) [4] [0, 1] [0] rfl rfl rfl rfl ?_)
     obtain rfl := Option.some.inj h
     exact Tk_retV rfl rfl (resA (vs := [vI (5 : Int)]) rfl ⟨rfl, trivial⟩) [0, 1] [] rfl rfl rfl ⟨rfl, rfl, rfl⟩
    ·replace h := br_f hg4 h
     refine Tk_condF (congrArg (fun b => some (Value.bool b)) hg4) ?_
     refine Tk_skip (Tk_blk (Tk_region (Tops_step rfl (OpT_bin rfl rfl rfl rfl rfl (bin_add_i (a := x1) (b := (1 : Int)))) ?_)))
     refine Tops_step rfl (OpT_move rfl rfl rfl rfl) ?_
     refine Tops_nil (Tk_wkS (fr' := [(0, some (.pointer (some ⟨b_m, 0, none⟩))), (23, some (vl1)), (24, some (vI (len l))), (25, some (vI (wi (x1 + (1 : Int)))))]) (own' := [some (cellsR b_m 113 [vm1, vm2]), some (rowsX u8S true vm2 vsm1 m.b none)]) (shr' := [Fact.sl RegionS vm1 m.l, Fact.sl SegS vl1 l]) [0, 23, 24, 25] [0, 1] [0, 1] rfl rfl rfl rfl ?_)
     exact Tk_backS (wi (x1 + (1 : Int))) h [0, 23, 24, 25] [0, 1] [0, 1] rfl rfl rfl rfl rfl
   ·replace h := br_f hg3 h
    refine Tk_condF (congrArg (fun b => some (Value.bool b)) hg3) ?_
    refine Tk_exit _ rfl ?_
    refine Tk_seq (Tk_region (Tops_step rfl (OpT_assign rfl rfl rfl rfl) ?_))
    refine Tops_nil (Tk_wkS (fr' := [(4, some (vI (0 : Int)))]) (own' := [some (cellsR b_m 113 [vm1, vm2]), some (rowsX u8S true vm2 vsm1 m.b none)]) (shr' := [Fact.sl RegionS vm1 m.l]) [4] [0, 1] [0] rfl rfl rfl rfl ?_)
    obtain rfl := Option.some.inj h
    exact Tk_retV rfl rfl (resA (vs := [vI (0 : Int)]) rfl ⟨rfl, trivial⟩) [0, 1] [] rfl rfl rfl ⟨rfl, rfl, rfl⟩

set_option maxRecDepth 100000 in
set_option maxHeartbeats 4000000 in
theorem w_walk_looked {m : gmem_Mem} {l : List Seg} {b_m : Nat} {vm1 : Value} {vm2 : Value} {vsm1 : List Value} {vl1 : Value} {r : ((List Seg) × Int)} (h : walk_looked m l = some r) :
  Ctr Try.prog 42 #[.pointer (some ⟨b_m, 0, none⟩), vl1] [(cellsR b_m 113 [vm1, vm2]), (rowsX u8S true vm2 vsm1 m.b none)] [Fact.sl RegionS vm1 m.l, Fact.sl SegS vl1 l]
   (fun rv own shr => ∃ (w1 : Value), rv = .tuple #[w1, vI r.2] ∧ own = [(cellsR b_m 113 [vm1, vm2]), (rowsX u8S true vm2 vsm1 m.b none)] ∧ shr = [Fact.sl SegS w1 r.1]) := by
 unfold walk_looked at h
 refine Ctr.mk (args := [.pointer (some ⟨b_m, 0, none⟩), vl1]) Try.func42 rfl rfl (fun R0 w0 B => ?_)
 refine Tk_seq (Tk_region (Tops_step rfl (OpT_assign rfl rfl rfl rfl) ?_))
 refine Tops_step rfl (OpT_assign rfl rfl rfl rfl) ?_
 refine Tops_nil (Tk_wkS (fr' := [(0, some (.pointer (some ⟨b_m, 0, none⟩))), (1, some (vl1))]) (own' := [some (cellsR b_m 113 [vm1, vm2]), some (rowsX u8S true vm2 vsm1 m.b none)]) (shr' := [Fact.sl RegionS vm1 m.l, Fact.sl SegS vl1 l]) [0, 1] [0, 1] [0, 1] rfl rfl rfl rfl ?_)
 refine Tk_seq (Tk_seq (Tk_region (Tops_step rfl (OpT_move rfl rfl rfl rfl) ?_)))
 refine Tops_step rfl (OpT_lenS rfl rfl rfl rfl Try.underlying41 (i := 1) rfl) ?_
 refine Tops_step rfl (OpT_bin rfl rfl rfl rfl rfl (bin_eql_i (a := len l) (b := (0 : Int)))) ?_
 refine Tops_step rfl (OpT_move rfl rfl rfl rfl) ?_
 rcases Bool.eq_false_or_eq_true ((len l) == (0 : Int)) with hg1 | hg1
 ·replace h := br_t hg1 h
  refine Tops_no rfl rfl (congrArg (fun b => some (Value.bool b)) hg1) rfl rfl ?_
  refine Tops_no rfl rfl (congrArg (fun b => some (Value.bool b)) hg1) rfl rfl ?_
  refine Tops_no rfl rfl (congrArg (fun b => some (Value.bool b)) hg1) rfl rfl ?_
  refine Tops_step rfl (OpT_pickT rfl rfl rfl (congrArg (fun b => some (Value.bool b)) hg1) rfl) ?_
  refine Tops_nil (Tk_wkS (fr' := [(0, some (.pointer (some ⟨b_m, 0, none⟩))), (1, some (vl1)), (14, some (vB true))]) (own' := [some (cellsR b_m 113 [vm1, vm2]), some (rowsX u8S true vm2 vsm1 m.b none)]) (shr' := [Fact.sl RegionS vm1 m.l, Fact.sl SegS vl1 l]) [0, 1, 14] [0, 1] [0, 1] rfl rfl rfl rfl ?_)
  refine Tk_condT rfl ?_
  refine Tk_seq (Tk_region (Tops_step rfl (OpT_assign rfl rfl rfl rfl) ?_))
  refine Tops_step rfl (OpT_assign rfl rfl rfl rfl) ?_
  refine Tops_nil (Tk_wkS (fr' := [(4, some (.slice none 0 0)), (5, some (vI (4 : Int)))]) (own' := [some (cellsR b_m 113 [vm1, vm2]), some (rowsX u8S true vm2 vsm1 m.b none)]) (shr' := [Fact.sl RegionS vm1 m.l]) [4, 5] [0, 1] [0] rfl rfl rfl rfl ?_)
  refine Tk_nilfact SegS ?_
  obtain rfl := Option.some.inj h
  exact Tk_retV rfl rfl (resA (vs := [.slice none 0 0, vI (4 : Int)]) rfl ⟨rfl, rfl, trivial⟩) [0, 1] [1] rfl rfl rfl ⟨(.slice none 0 0), rfl, rfl, rfl⟩
 ·replace h := br_f hg1 h
  refine Tops_yes rfl rfl (congrArg (fun b => some (Value.bool b)) hg1) (OpT_move rfl rfl rfl rfl) ?_
  rintro _ rfl
  obtain ⟨check1, hx1, h⟩ := ob_e h
  refine Tops_yes rfl rfl (congrArg (fun b => some (Value.bool b)) hg1) (OpT_call (w_seg_Check hx1) [] [1] rfl rfl rfl rfl rfl callee62 rfl rfl rfl rfl) ?_
  rintro _ ⟨_, _, _, ⟨rfl, rfl, rfl⟩, rfl⟩
  refine Tops_yes rfl rfl (congrArg (fun b => some (Value.bool b)) hg1) (OpT_bin rfl rfl rfl rfl rfl (bin_neq_i (a := check1) (b := (0 : Int)))) ?_
  rintro _ rfl
  refine Tops_step rfl (OpT_pickF rfl rfl rfl (congrArg (fun b => some (Value.bool b)) hg1) rfl) ?_
  refine Tops_nil (Tk_wkS (fr' := [(0, some (.pointer (some ⟨b_m, 0, none⟩))), (1, some (vl1)), (14, some (vB (check1 != (0 : Int))))]) (own' := [some (cellsR b_m 113 [vm1, vm2]), some (rowsX u8S true vm2 vsm1 m.b none)]) (shr' := [Fact.sl RegionS vm1 m.l, Fact.sl SegS vl1 l]) [0, 1, 14] [0, 1] [0, 1] rfl rfl rfl rfl ?_)
  rcases Bool.eq_false_or_eq_true (check1 != (0 : Int)) with hg2 | hg2
  ·replace h := br_t hg2 h
   refine Tk_condT (congrArg (fun b => some (Value.bool b)) hg2) ?_
   refine Tk_seq (Tk_region (Tops_step rfl (OpT_assign rfl rfl rfl rfl) ?_))
   refine Tops_step rfl (OpT_assign rfl rfl rfl rfl) ?_
   refine Tops_nil (Tk_wkS (fr' := [(4, some (.slice none 0 0)), (5, some (vI (4 : Int)))]) (own' := [some (cellsR b_m 113 [vm1, vm2]), some (rowsX u8S true vm2 vsm1 m.b none)]) (shr' := [Fact.sl RegionS vm1 m.l]) [4, 5] [0, 1] [0] rfl rfl rfl rfl ?_)
   refine Tk_nilfact SegS ?_
   obtain rfl := Option.some.inj h
   exact Tk_retV rfl rfl (resA (vs := [.slice none 0 0, vI (4 : Int)]) rfl ⟨rfl, rfl, trivial⟩) [0, 1] [1] rfl rfl rfl ⟨(.slice none 0 0), rfl, rfl, rfl⟩
  ·replace h := br_f hg2 h
   refine Tk_condF (congrArg (fun b => some (Value.bool b)) hg2) ?_
   refine Tk_skip (Tk_seq (Tk_seq (Tk_region (Tops_step rfl (OpT_move rfl rfl rfl rfl) ?_))))
   refine Tops_step rfl (OpT_move rfl rfl rfl rfl) ?_
   obtain ⟨in1, hx2, h⟩ := ob_e h
   refine Tops_exP rfl (OpT_callP [2, 3] (w_seg_In hx2) [0, 1] [0, 1] rfl rfl rfl rfl rfl callee88 rfl rfl rfl rfl rfl) ?_
   rintro _ ⟨_, _, _, ⟨rfl, rfl, rfl⟩, rfl⟩
   refine Tops_step rfl (OpT_assign rfl rfl rfl rfl) ?_
   refine Tops_nil (Tk_wkS (fr' := [(1, some (vl1)), (6, some (vI in1))]) (own' := [some (cellsR b_m 113 [vm1, vm2]), some (rowsX u8S true vm2 vsm1 m.b none)]) (shr' := [Fact.sl RegionS vm1 m.l, Fact.sl SegS vl1 l]) [1, 6] [0, 1] [0, 1] rfl rfl rfl rfl ?_)
   refine Tk_seq (Tk_region (Tops_step rfl (OpT_move rfl rfl rfl rfl) ?_))
   refine Tops_step rfl (OpT_bin rfl rfl rfl rfl rfl (bin_neq_i (a := in1) (b := (0 : Int)))) ?_
   refine Tops_nil (Tk_wkS (fr' := [(1, some (vl1)), (6, some (vI in1)), (19, some (vB (in1 != (0 : Int))))]) (own' := [some (cellsR b_m 113 [vm1, vm2]), some (rowsX u8S true vm2 vsm1 m.b none)]) (shr' := [Fact.sl RegionS vm1 m.l, Fact.sl SegS vl1 l]) [1, 6, 19] [0, 1] [0, 1] rfl rfl rfl rfl ?_)
   rcases Bool.eq_false_or_eq_true (in1 != (0 : Int)) with hg3 | hg3
   ·replace h := br_t hg3 h
    refine Tk_condT (congrArg (fun b => some (Value.bool b)) hg3) ?_
    refine Tk_seq (Tk_region (Tops_step rfl (OpT_move rfl rfl rfl rfl) ?_))
    refine Tops_step rfl (OpT_assign rfl rfl rfl rfl) ?_
    refine Tops_step rfl (OpT_assign rfl rfl rfl rfl) ?_
    refine Tops_nil (Tk_wkS (fr' := [(4, some (.slice none 0 0)), (5, some (vI in1))]) (own' := [some (cellsR b_m 113 [vm1, vm2]), some (rowsX u8S true vm2 vsm1 m.b none)]) (shr' := [Fact.sl RegionS vm1 m.l]) [4, 5] [0, 1] [0] rfl rfl rfl rfl ?_)
    refine Tk_nilfact SegS ?_
    obtain rfl := Option.some.inj h
    exact Tk_retV rfl rfl (resA (vs := [.slice none 0 0, vI in1]) rfl ⟨rfl, rfl, trivial⟩) [0, 1] [1] rfl rfl rfl ⟨(.slice none 0 0), rfl, rfl, rfl⟩
   ·replace h := br_f hg3 h
    refine Tk_condF (congrArg (fun b => some (Value.bool b)) hg3) ?_
    refine Tk_skip (Tk_seq (Tk_region (Tops_step rfl (OpT_move rfl rfl rfl rfl) ?_)))
    refine Tops_step rfl (OpT_assign rfl rfl rfl rfl) ?_
    refine Tops_step rfl (OpT_assign rfl rfl rfl rfl) ?_
    refine Tops_nil (Tk_wkS (fr' := [(4, some (vl1)), (5, some (vI (0 : Int)))]) (own' := [some (cellsR b_m 113 [vm1, vm2]), some (rowsX u8S true vm2 vsm1 m.b none)]) (shr' := [Fact.sl RegionS vm1 m.l, Fact.sl SegS vl1 l]) [4, 5] [0, 1] [0, 1] rfl rfl rfl rfl ?_)
    obtain rfl := Option.some.inj h
    exact Tk_retV rfl rfl (resA (vs := [vl1, vI (0 : Int)]) rfl ⟨rfl, rfl, trivial⟩) [0, 1] [1] rfl rfl rfl ⟨vl1, rfl, rfl, rfl⟩

set_option maxRecDepth 100000 in
set_option maxHeartbeats 4000000 in
theorem w_walk_Split {m : gmem_Mem} {rp1 : Rings} {head : Int} {table : Bool} {b_m : Nat} {vm1 : Value} {vm2 : Value} {vsm1 : List Value} {r : ((List Seg) × Int)} (h : walk_Split m rp1 head table = some r) :
  Ctr Try.prog 13 #[.pointer (some ⟨b_m, 0, none⟩), .agg #[vB rp1.Packed, vI rp1.Size, vU64 rp1.Desc, vU64 rp1.Driver, vU64 rp1.Device], vI head, vB table] [(cellsR b_m 113 [vm1, vm2]), (rowsX u8S true vm2 vsm1 m.b none)] [Fact.sl RegionS vm1 m.l]
   (fun rv own shr => ∃ (w1 : Value), rv = .tuple #[w1, vI r.2] ∧ own = [(cellsR b_m 113 [vm1, vm2]), (rowsX u8S true vm2 vsm1 m.b none)] ∧ shr = [Fact.sl SegS w1 r.1]) := by
 unfold walk_Split at h
 refine Ctr.mk (args := [.pointer (some ⟨b_m, 0, none⟩), .agg #[vB rp1.Packed, vI rp1.Size, vU64 rp1.Desc, vU64 rp1.Driver, vU64 rp1.Device], vI head, vB table]) Try.func13 rfl rfl (fun R0 w0 B => ?_)
 refine Tk_seq (Tk_region (Tops_ex rfl (OpT_box rfl rfl rfl rfl) fun b1 => ?_))
 refine Tops_step rfl (OpT_assign rfl rfl rfl rfl) ?_
 refine Tops_step rfl (OpT_assign rfl rfl rfl rfl) ?_
 refine Tops_nil (Tk_wkS (fr' := [(0, some (.pointer (some ⟨b_m, 0, none⟩))), (2, some (vI head)), (3, some (vB table)), (5, some (.pointer (some ⟨b1, 0, none⟩)))]) (own' := [some (cellsR b_m 113 [vm1, vm2]), some (rowsX u8S true vm2 vsm1 m.b none), some (cellsR b1 29 [vB rp1.Packed, vI rp1.Size, vU64 rp1.Desc, vU64 rp1.Driver, vU64 rp1.Device])]) (shr' := [Fact.sl RegionS vm1 m.l]) [0, 2, 3, 5] [0, 1, 2] [0] rfl rfl rfl rfl ?_)
 refine Tk_seq (Tk_seq (Tk_region (Tops_step rfl (OpT_move rfl rfl rfl rfl) ?_)))
 refine Tops_step rfl (OpT_loadCA (vs := [vB rp1.Packed, vI rp1.Size, vU64 rp1.Desc, vU64 rp1.Driver, vU64 rp1.Device]) rfl rfl rfl rfl tyF29 (i := 2) rfl rfl rfl) ?_
 obtain ⟨refuse1, hx1, h⟩ := ob_e h
 refine Tops_exP rfl (OpT_callP [3, 4, 2] (w_walk_refuse hx1) [0, 1] [0] rfl rfl rfl rfl rfl callee40 rfl rfl rfl rfl rfl) ?_
 rintro _ ⟨_, _, _, ⟨rfl, rfl, rfl⟩, rfl⟩
 refine Tops_step rfl (OpT_assign rfl rfl rfl rfl) ?_
 refine Tops_nil (Tk_wkS (fr' := [(0, some (.pointer (some ⟨b_m, 0, none⟩))), (2, some (vI head)), (3, some (vB table)), (5, some (.pointer (some ⟨b1, 0, none⟩))), (10, some (vI refuse1))]) (own' := [some (cellsR b_m 113 [vm1, vm2]), some (rowsX u8S true vm2 vsm1 m.b none), some (cellsR b1 29 [vB rp1.Packed, vI rp1.Size, vU64 rp1.Desc, vU64 rp1.Driver, vU64 rp1.Device])]) (shr' := [Fact.sl RegionS vm1 m.l]) [0, 2, 3, 5, 10] [0, 1, 2] [0] rfl rfl rfl rfl ?_)
 refine Tk_seq (Tk_region (Tops_step rfl (OpT_move rfl rfl rfl rfl) ?_))
 refine Tops_step rfl (OpT_bin rfl rfl rfl rfl rfl (bin_neq_i (a := refuse1) (b := (0 : Int)))) ?_
 refine Tops_nil (Tk_wkS (fr' := [(0, some (.pointer (some ⟨b_m, 0, none⟩))), (2, some (vI head)), (3, some (vB table)), (5, some (.pointer (some ⟨b1, 0, none⟩))), (10, some (vI refuse1)), (18, some (vB (refuse1 != (0 : Int))))]) (own' := [some (cellsR b_m 113 [vm1, vm2]), some (rowsX u8S true vm2 vsm1 m.b none), some (cellsR b1 29 [vB rp1.Packed, vI rp1.Size, vU64 rp1.Desc, vU64 rp1.Driver, vU64 rp1.Device])]) (shr' := [Fact.sl RegionS vm1 m.l]) [0, 2, 3, 5, 10, 18] [0, 1, 2] [0] rfl rfl rfl rfl ?_)
 rcases Bool.eq_false_or_eq_true (refuse1 != (0 : Int)) with hg1 | hg1
 ·replace h := br_t hg1 h
  refine Tk_condT (congrArg (fun b => some (Value.bool b)) hg1) ?_
  refine Tk_seq (Tk_region (Tops_step rfl (OpT_move rfl rfl rfl rfl) ?_))
  refine Tops_step rfl (OpT_assign rfl rfl rfl rfl) ?_
  refine Tops_step rfl (OpT_assign rfl rfl rfl rfl) ?_
  refine Tops_nil (Tk_wkS (fr' := [(8, some (.slice none 0 0)), (9, some (vI refuse1))]) (own' := [some (cellsR b_m 113 [vm1, vm2]), some (rowsX u8S true vm2 vsm1 m.b none)]) (shr' := [Fact.sl RegionS vm1 m.l]) [8, 9] [0, 1] [0] rfl rfl rfl rfl ?_)
  refine Tk_nilfact SegS ?_
  obtain rfl := Option.some.inj h
  exact Tk_retV rfl rfl (resA (vs := [.slice none 0 0, vI refuse1]) rfl ⟨rfl, rfl, trivial⟩) [0, 1] [1] rfl rfl rfl ⟨(.slice none 0 0), rfl, rfl, rfl⟩
 ·replace h := br_f hg1 h
  refine Tk_condF (congrArg (fun b => some (Value.bool b)) hg1) ?_
  refine Tk_skip (Tk_seq (Tk_region (Tops_step rfl (OpT_move rfl rfl rfl rfl) ?_)))
  refine Tops_step rfl (OpT_loadCA (vs := [vB rp1.Packed, vI rp1.Size, vU64 rp1.Desc, vU64 rp1.Driver, vU64 rp1.Device]) rfl rfl rfl rfl tyF29 (i := 2) rfl rfl rfl) ?_
  refine Tops_step rfl (OpT_move rfl rfl rfl rfl) ?_
  refine Tops_step rfl (OpT_move rfl rfl rfl rfl) ?_
  obtain ⟨split1, hx2, h⟩ := ob_e h
  refine Tops_exP rfl (OpT_callP [3, 4, 2, 5] (w_walk_split hx2) [0, 1] [0] rfl rfl rfl rfl rfl callee41 rfl rfl rfl rfl rfl) ?_
  rintro _ ⟨_, _, _, ⟨v1, rfl, rfl, rfl⟩, rfl⟩
  refine Tops_step rfl (OpT_move rfl rfl rfl rfl) ?_
  refine Tops_step rfl (OpT_extract rfl rfl rfl rfl rfl) ?_
  refine Tops_step rfl (OpT_extract rfl rfl rfl rfl rfl) ?_
  refine Tops_step rfl (OpT_extract rfl rfl rfl rfl rfl) ?_
  refine Tops_step rfl (OpT_assign rfl rfl rfl rfl) ?_
  refine Tops_step rfl (OpT_assign rfl rfl rfl rfl) ?_
  refine Tops_step rfl (OpT_assign rfl rfl rfl rfl) ?_
  refine Tops_nil (Tk_wkS (fr' := [(0, some (.pointer (some ⟨b_m, 0, none⟩))), (11, some (v1)), (13, some (vI split1.2.2))]) (own' := [some (cellsR b_m 113 [vm1, vm2]), some (rowsX u8S true vm2 vsm1 m.b none), some (rowS SegS v1 split1.1)]) (shr' := [Fact.sl RegionS vm1 m.l]) [0, 11, 13] [0, 1, 3] [0] rfl rfl rfl rfl ?_)
  refine Tk_seq (Tk_seq (Tk_region (Tops_step rfl (OpT_move rfl rfl rfl rfl) ?_)))
  refine Tops_step rfl (OpT_bin rfl rfl rfl rfl rfl (bin_neq_i (a := split1.2.2) (b := (0 : Int)))) ?_
  refine Tops_nil (Tk_wkS (fr' := [(0, some (.pointer (some ⟨b_m, 0, none⟩))), (11, some (v1)), (13, some (vI split1.2.2)), (30, some (vB (split1.2.2 != (0 : Int))))]) (own' := [some (cellsR b_m 113 [vm1, vm2]), some (rowsX u8S true vm2 vsm1 m.b none), some (rowS SegS v1 split1.1)]) (shr' := [Fact.sl RegionS vm1 m.l]) [0, 11, 13, 30] [0, 1, 2] [0] rfl rfl rfl rfl ?_)
  rcases Bool.eq_false_or_eq_true (split1.2.2 != (0 : Int)) with hg2 | hg2
  ·replace h := br_t hg2 h
   refine Tk_condT (congrArg (fun b => some (Value.bool b)) hg2) ?_
   refine Tk_seq (Tk_region (Tops_step rfl (OpT_move rfl rfl rfl rfl) ?_))
   refine Tops_step rfl (OpT_assign rfl rfl rfl rfl) ?_
   refine Tops_step rfl (OpT_assign rfl rfl rfl rfl) ?_
   refine Tops_nil (Tk_wkS (fr' := [(8, some (.slice none 0 0)), (9, some (vI split1.2.2))]) (own' := [some (cellsR b_m 113 [vm1, vm2]), some (rowsX u8S true vm2 vsm1 m.b none)]) (shr' := [Fact.sl RegionS vm1 m.l]) [8, 9] [0, 1] [0] rfl rfl rfl rfl ?_)
   refine Tk_nilfact SegS ?_
   obtain rfl := Option.some.inj h
   exact Tk_retV rfl rfl (resA (vs := [.slice none 0 0, vI split1.2.2]) rfl ⟨rfl, rfl, trivial⟩) [0, 1] [1] rfl rfl rfl ⟨(.slice none 0 0), rfl, rfl, rfl⟩
  ·replace h := br_f hg2 h
   refine Tk_condF (congrArg (fun b => some (Value.bool b)) hg2) ?_
   refine Tk_skip (Tk_seq (Tk_region (Tops_step rfl (OpT_move rfl rfl rfl rfl) ?_)))
   refine Tops_step rfl (OpT_move rfl rfl rfl rfl) ?_
   refine Tops_retire (i := 2) rfl ?_
   obtain ⟨looked1, hx3, h⟩ := ob_e h
   refine Tops_exP rfl (OpT_callP [3, 4, 2] (w_walk_looked hx3) [0, 1] [0, 1] rfl rfl rfl rfl rfl callee42 rfl rfl rfl rfl rfl) ?_
   rintro _ ⟨_, _, _, ⟨v2, rfl, rfl, rfl⟩, rfl⟩
   refine Tops_step rfl (OpT_extract rfl rfl rfl rfl rfl) ?_
   refine Tops_step rfl (OpT_extract rfl rfl rfl rfl rfl) ?_
   refine Tops_step rfl (OpT_assign rfl rfl rfl rfl) ?_
   refine Tops_step rfl (OpT_assign rfl rfl rfl rfl) ?_
   refine Tops_nil (Tk_wkS (fr' := [(8, some (v2)), (9, some (vI looked1.2))]) (own' := [some (cellsR b_m 113 [vm1, vm2]), some (rowsX u8S true vm2 vsm1 m.b none)]) (shr' := [Fact.sl RegionS vm1 m.l, Fact.sl SegS v2 looked1.1]) [8, 9] [0, 1] [0, 2] rfl rfl rfl rfl ?_)
   obtain rfl := Option.some.inj h
   exact Tk_retV rfl rfl (resA (vs := [v2, vI looked1.2]) rfl ⟨rfl, rfl, trivial⟩) [0, 1] [1] rfl rfl rfl ⟨v2, rfl, rfl, rfl⟩
end Go.Proofs.Ytlofegfaphijpaa
