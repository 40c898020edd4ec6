/- The functions do what the plain words say: each is walked once. No statement of the seat is proved here; no condition. -/
import Derived.Test.YtkjmmbmlapmkbaaWa1
namespace Go.Proofs.Ytkjmmbmlapmkbaa

set_option maxRecDepth 100000 in
set_option maxHeartbeats 4000000 in
theorem w_seg_Part {l : List Seg} {write : Bool} {vl1 : Value} {r : (List Seg)} (h : seg_Part l write = some r) :
  Ctr Try.prog 36 #[vl1, vB write] [] [Fact.sl SegS vl1 l]
   (fun rv own shr => ∃ (w1 : Value), rv = w1 ∧ own = [(rowS SegS w1 r)] ∧ shr = []) := by
 unfold seg_Part at h
 refine Ctr.mk (args := [vl1, vB write]) Try.func36 rfl rfl (fun R0 w0 B => ?_)
 refine Tk_seq (Tk_region (Tops_step rfl (OpT_assign rfl rfl rfl rfl) ?_))
 refine Tops_nil (Tk_seq (Tk_seq (Tk_region (Tops_step rfl (OpT_move rfl rfl rfl rfl) ?_))))
 obtain ⟨check1, hx1, h⟩ := ob_e h
 refine Tops_exP rfl (OpT_call (w_seg_Check hx1) [] [0] rfl rfl rfl rfl rfl callee42 rfl rfl rfl rfl) ?_
 rintro _ ⟨_, _, _, ⟨rfl, rfl, rfl⟩, rfl⟩
 refine Tops_step rfl (OpT_bin rfl rfl rfl rfl rfl (bin_neq_i (a := check1) (b := (0 : Int)))) ?_
 refine Tops_nil (Tk_wkS (fr' := [(0, some (vl1)), (1, some (vB write)), (4, some (.slice none 0 0)), (9, some (vB (check1 != (0 : Int))))]) (own' := []) (shr' := [Fact.sl SegS vl1 l]) [0, 1, 4, 9] [] [0] rfl rfl rfl rfl ?_)
 rcases Bool.eq_false_or_eq_true (check1 != (0 : Int)) with hg1 | hg1
 ·replace h := br_t hg1 h
  refine Tk_condT (congrArg (fun b => some (Value.bool b)) hg1) ?_
  refine Tk_seq (Tk_region (Tops_step rfl (OpT_assign rfl rfl rfl rfl) ?_))
  refine Tops_nil (Tk_wkS (fr' := [(4, some (.slice none 0 0))]) (own' := []) (shr' := []) [4] [] [] rfl rfl rfl rfl ?_)
  refine Tk_nilrow SegS ?_
  obtain rfl := Option.some.inj h
  exact Tk_retV rfl rfl (resA (vs := [.slice none 0 0]) rfl ⟨rfl, trivial⟩) [0] [] rfl rfl rfl ⟨(.slice none 0 0), rfl, rfl, rfl⟩
 ·replace h := br_f hg1 h
  refine Tk_condF (congrArg (fun b => some (Value.bool b)) hg1) ?_
  refine Tk_skip (Tk_seq (Tk_seq (Tk_region (Tops_step rfl (OpT_move rfl rfl rfl rfl) ?_))))
  refine Tops_step rfl (OpT_lenS rfl rfl rfl rfl Try.underlying49 (i := 0) rfl) ?_
  refine Tops_step rfl (OpT_move rfl rfl rfl rfl) ?_
  refine Tops_nil (Tk_wkS (fr' := [(1, some (vB write)), (4, some (.slice none 0 0)), (10, some (vl1)), (11, some (vI (len l))), (12, some (vI (0 : Int)))]) (own' := []) (shr' := [Fact.sl SegS vl1 l]) [1, 4, 10, 11, 12] [] [0] rfl rfl rfl rfl ?_)
  refine Tk_block (Tk_nilrow SegS ?_)
  refine Tk_loopS (σ := (List Seg) × Int × Value) [1, 4, 10, 11, 12] [0] [0] (fun s => ⟨[(1, some (vB write)), (4, some (s.2.2)), (10, some (vl1)), (11, some (vI (len l))), (12, some (vI s.2.1))], [some (rowS SegS s.2.2 s.1)], [Fact.sl SegS vl1 l]⟩) (fun nf1 s => seg_PartL1 l write nf1 s.1 s.2.1 = some r) fuel ([], (0 : Int), (.slice none 0 0)) h rfl rfl rfl rfl rfl (fun s h => by cases h) ?_
  rintro nf1 ⟨out1, x1, v1⟩ h
  replace h : seg_PartL1B l write (seg_PartL1 l write nf1) out1 x1 = some r := h
  unfold seg_PartL1B at h
  refine Tk_seq (Tk_region (Tops_step rfl (OpT_bin rfl rfl rfl rfl rfl (bin_lss_i (a := x1) (b := len l))) ?_))
  refine Tops_nil (Tk_seq ?_)
  rcases Bool.eq_false_or_eq_true (decide (x1 < (len l))) with hg2 | hg2
  ·replace h := br_t hg2 h
   refine Tk_condT (congrArg (fun b => some (Value.bool b)) hg2) ?_
   refine Tk_skip (Tk_seq (Tk_block (Tk_seq (Tk_region ?_))))
   obtain ⟨s1, hx2, h⟩ := ob_e h
   refine Tops_ex rfl (OpT_idxS rfl rfl rfl rfl rfl slF49 (i := 0) rfl hx2) fun p1 => ?_
   refine Tops_step rfl (OpT_loadPA (vs := [vU64 s1.At, vU32 s1.Len, vB s1.Write]) rfl rfl rfl rfl tyF81 (i := 1) rfl rfl) ?_
   refine Tops_ex rfl (OpT_alloc rfl rfl rfl tyZ81) fun b1 => ?_
   refine Tops_step rfl (OpT_storeC (cs' := [vU64 s1.At, vU32 s1.Len, vB s1.Write]) rfl rfl rfl rfl tyF81 (i := 1) rfl rfl rfl (one_of rfl) rfl) ?_
   refine Tops_nil (Tk_wkS (fr' := [(1, some (vB write)), (4, some (v1)), (10, some (vl1)), (11, some (vI (len l))), (12, some (vI x1)), (6, some (.pointer (some ⟨b1, 0, none⟩)))]) (own' := [some (rowS SegS v1 out1), some (cellsR b1 81 [vU64 s1.At, vU32 s1.Len, vB s1.Write])]) (shr' := [Fact.sl SegS vl1 l]) [1, 4, 10, 11, 12, 6] [0, 1] [0] rfl rfl rfl rfl ?_)
   refine Tk_seq (Tk_region (Tops_step rfl (OpT_fieldC rfl rfl rfl rfl fldF81x2) ?_))
   refine Tops_step rfl (OpT_loadC rfl rfl rfl rfl tyF4 (i := 1) rfl rfl) ?_
   refine Tops_step rfl (OpT_move rfl rfl rfl rfl) ?_
   refine Tops_step rfl (OpT_bin rfl rfl rfl rfl rfl (bin_eql_b (a := s1.Write) (b := write) Try.underlying4)) ?_
   refine Tops_nil (Tk_wkS (fr' := [(1, some (vB write)), (4, some (v1)), (10, some (vl1)), (11, some (vI (len l))), (12, some (vI x1)), (6, some (.pointer (some ⟨b1, 0, none⟩))), (19, some (vB (s1.Write == write)))]) (own' := [some (rowS SegS v1 out1), some (cellsR b1 81 [vU64 s1.At, vU32 s1.Len, vB s1.Write])]) (shr' := [Fact.sl SegS vl1 l]) [1, 4, 10, 11, 12, 6, 19] [0, 1] [0] rfl rfl rfl rfl ?_)
   rcases Bool.eq_false_or_eq_true (s1.Write == write) with hg3 | hg3
   ·replace h := br_t hg3 h
    refine Tk_condT (congrArg (fun b => some (Value.bool b)) hg3) ?_
    refine Tk_region (Tops_step rfl (OpT_move rfl rfl rfl rfl) ?_)
    refine Tops_step rfl (OpT_loadCA (vs := [vU64 s1.At, vU32 s1.Len, vB s1.Write]) rfl rfl rfl rfl tyF81 (i := 1) rfl rfl rfl) ?_
    refine Tops_ex rfl (OpT_buildSlice (S := SegS) (xs := [s1]) (css := [[vU64 s1.At, vU32 s1.Len, vB s1.Write]]) (cs := [vU64 s1.At, vU32 s1.Len, vB s1.Write]) (e := 81) rfl rfl rfl rfl (bldF slF49 (by decide) (by kernel_rfl)) rfl rfl rfl rfl (rel_plainD (S := SegS) (xs := [s1]) (css := [[vU64 s1.At, vU32 s1.Len, vB s1.Write]]) rfl rfl)) fun v2 => ?_
    obtain ⟨hc1, h⟩ := chk_e h
    refine Tops_ex rfl (OpT_appendB (S := SegS) rfl rfl rfl rfl rfl rfl slF49 (i := 0) (j := 2) rfl rfl hc1) fun v3 => ?_
    refine Tops_step rfl (OpT_assign rfl rfl rfl rfl) ?_
    refine Tops_nil (Tk_wkS (fr' := [(1, some (vB write)), (4, some (v3)), (10, some (vl1)), (11, some (vI (len l))), (12, some (vI x1))]) (own' := [some (rowS SegS v3 (out1 ++ [s1]))]) (shr' := [Fact.sl SegS vl1 l]) [1, 4, 10, 11, 12] [0] [0] rfl rfl rfl rfl ?_)
    refine Tk_blk (Tk_region (Tops_step rfl (OpT_bin rfl rfl rfl rfl rfl (bin_add_i (a := x1) (b := (1 : Int)))) ?_))
    refine Tops_step rfl (OpT_move rfl rfl rfl rfl) ?_
    refine Tops_nil (Tk_wkS (fr' := [(1, some (vB write)), (4, some (v3)), (10, some (vl1)), (11, some (vI (len l))), (12, some (vI (wi (x1 + (1 : Int)))))]) (own' := [some (rowS SegS v3 (out1 ++ [s1]))]) (shr' := [Fact.sl SegS vl1 l]) [1, 4, 10, 11, 12] [0] [0] rfl rfl rfl rfl ?_)
    exact Tk_backS (out1 ++ [s1], wi (x1 + (1 : Int)), v3) h [1, 4, 10, 11, 12] [0] [0] rfl rfl rfl rfl rfl
   ·replace h := br_f hg3 h
    refine Tk_condF (congrArg (fun b => some (Value.bool b)) hg3) ?_
    refine Tk_skip (Tk_blk (Tk_region (Tops_step rfl (OpT_bin rfl rfl rfl rfl rfl (bin_add_i (a := x1) (b := (1 : Int)))) ?_)))
    refine Tops_step rfl (OpT_move rfl rfl rfl rfl) ?_
    refine Tops_nil (Tk_wkS (fr' := [(1, some (vB write)), (4, some (v1)), (10, some (vl1)), (11, some (vI (len l))), (12, some (vI (wi (x1 + (1 : Int)))))]) (own' := [some (rowS SegS v1 out1)]) (shr' := [Fact.sl SegS vl1 l]) [1, 4, 10, 11, 12] [0] [0] rfl rfl rfl rfl ?_)
    exact Tk_backS (out1, wi (x1 + (1 : Int)), v1) h [1, 4, 10, 11, 12] [0] [0] rfl rfl rfl rfl rfl
  ·replace h := br_f hg2 h
   refine Tk_condF (congrArg (fun b => some (Value.bool b)) hg2) ?_
   refine Tk_exit _ rfl ?_
   refine Tk_seq (Tk_region (Tops_step rfl (OpT_move rfl rfl rfl rfl) ?_))
   refine Tops_step rfl (OpT_assign rfl rfl rfl rfl) ?_
   refine Tops_nil (Tk_wkS (fr' := [(4, some (v1))]) (own' := [some (rowS SegS v1 out1)]) (shr' := []) [4] [0] [] rfl rfl rfl rfl ?_)
   obtain rfl := Option.some.inj h
   exact Tk_retV rfl rfl (resA (vs := [v1]) rfl ⟨rfl, trivial⟩) [0] [] rfl rfl rfl ⟨v1, rfl, rfl, rfl⟩

set_option maxRecDepth 100000 in
set_option maxHeartbeats 4000000 in
theorem w_gmem_Mem_Write {m : gmem_Mem} {atp1 : UInt64} {arg2 : List UInt8} {b_m : Nat} {vm1 : Value} {vm2 : Value} {vsm1 : List Value} {varg21 : Value} {r : (Int × (List (List UInt8)))} (h : gmem_Mem_Write m atp1 arg2 = some r) :
  Ctr Try.prog 14 #[.pointer (some ⟨b_m, 0, none⟩), vU64 atp1, varg21] [(cellsR b_m 76 [vm1, vm2]), (rowsX u8S true vm2 vsm1 m.b none)] [Fact.sl RegionS vm1 m.l, Fact.sl u8S varg21 arg2]
   (fun rv own shr => rv = vI r.1 ∧ own = [(cellsR b_m 76 [vm1, vm2]), (rowsX u8S true vm2 vsm1 r.2 none)] ∧ shr = []) := by
 unfold gmem_Mem_Write at h
 refine Ctr.mk (args := [.pointer (some ⟨b_m, 0, none⟩), vU64 atp1, varg21]) Try.func14 rfl rfl (fun R0 w0 B => ?_)
 refine Tk_seq (Tk_region (Tops_step rfl (OpT_assign rfl rfl rfl rfl) ?_))
 refine Tops_nil (Tk_wkS (fr' := [(0, some (.pointer (some ⟨b_m, 0, none⟩))), (1, some (vU64 atp1)), (2, some (varg21))]) (own' := [some (cellsR b_m 76 [vm1, vm2]), some (rowsX u8S true vm2 vsm1 m.b none)]) (shr' := [Fact.sl RegionS vm1 m.l, Fact.sl u8S varg21 arg2]) [0, 1, 2] [0, 1] [0, 1] rfl rfl rfl rfl ?_)
 refine Tk_seq (Tk_seq (Tk_region (Tops_step rfl (OpT_move rfl rfl rfl rfl) ?_)))
 obtain ⟨made1, hx1, h⟩ := ob_e h
 refine Tops_exP rfl (OpT_callP [2, 3] (w_gmem_Mem_made hx1) [0, 1] [0] rfl rfl rfl rfl rfl callee29 rfl rfl rfl rfl rfl) ?_
 rintro _ ⟨_, _, _, ⟨rfl, rfl, rfl⟩, rfl⟩
 refine Tops_step rfl (OpT_not rfl rfl rfl rfl) ?_
 refine Tops_nil (Tk_wkS (fr' := [(0, some (.pointer (some ⟨b_m, 0, none⟩))), (1, some (vU64 atp1)), (2, some (varg21)), (10, some (vB (!made1)))]) (own' := [some (cellsR b_m 76 [vm1, vm2]), some (rowsX u8S true vm2 vsm1 m.b none)]) (shr' := [Fact.sl RegionS vm1 m.l, Fact.sl u8S varg21 arg2]) [0, 1, 2, 10] [0, 1] [0, 1] rfl rfl rfl rfl ?_)
 refine Tk_condF (congrArg (fun b => some (Value.bool b)) (congrArg (!·) (Option.some.inj (show some true = some made1 from hx1)).symm)) ?_
 refine Tk_skip (Tk_seq (Tk_seq (Tk_region (Tops_step rfl (OpT_move rfl rfl rfl rfl) ?_))))
 refine Tops_step rfl (OpT_lenS rfl rfl rfl rfl Try.underlying30 (i := 1) rfl) ?_
 refine Tops_step rfl (OpT_bin rfl rfl rfl rfl rfl (bin_eql_i (a := len arg2) (b := (0 : Int)))) ?_
 refine Tops_nil (Tk_wkS (fr' := [(0, some (.pointer (some ⟨b_m, 0, none⟩))), (1, some (vU64 atp1)), (2, some (varg21)), (13, some (vB ((len arg2) == (0 : Int))))]) (own' := [some (cellsR b_m 76 [vm1, vm2]), some (rowsX u8S true vm2 vsm1 m.b none)]) (shr' := [Fact.sl RegionS vm1 m.l, Fact.sl u8S varg21 arg2]) [0, 1, 2, 13] [0, 1] [0, 1] rfl rfl rfl rfl ?_)
 rcases Bool.eq_false_or_eq_true ((len arg2) == (0 : Int)) with hg1 | hg1
 ·replace h := br_t hg1 h
  refine Tk_condT (congrArg (fun b => some (Value.bool b)) hg1) ?_
  refine Tk_seq (Tk_region (Tops_step rfl (OpT_assign rfl rfl rfl rfl) ?_))
  refine Tops_nil (Tk_wkS (fr' := [(6, some (vI (0 : Int)))]) (own' := [some (cellsR b_m 76 [vm1, vm2]), some (rowsX u8S true vm2 vsm1 m.b none)]) (shr' := [Fact.sl RegionS vm1 m.l]) [6] [0, 1] [0] rfl rfl rfl rfl ?_)
  obtain rfl := Option.some.inj h
  exact Tk_retV rfl rfl (resA (vs := [vI (0 : Int)]) rfl ⟨rfl, trivial⟩) [0, 1] [] rfl rfl rfl ⟨rfl, rfl, rfl⟩
 ·replace h := br_f hg1 h
  refine Tk_condF (congrArg (fun b => some (Value.bool b)) hg1) ?_
  refine Tk_skip (Tk_seq (Tk_region (Tops_step rfl (OpT_move rfl rfl rfl rfl) ?_)))
  refine Tops_step rfl (OpT_move rfl rfl rfl rfl) ?_
  refine Tops_step rfl (OpT_move rfl rfl rfl rfl) ?_
  refine Tops_step rfl (OpT_lenS rfl rfl rfl rfl Try.underlying30 (i := 1) rfl) ?_
  refine Tops_step rfl (OpT_cnv rfl rfl rfl rfl (cnv_i_u64 (n := len arg2) Try.underlying3 Try.underlying38)) ?_
  obtain ⟨bytes1, hx2, h⟩ := ob_e h
  refine Tops_exP rfl (OpT_callP [2, 3] (w_gmem_Mem_bytes hx2) [0, 1] [0] rfl rfl rfl rfl rfl callee30 rfl rfl rfl rfl rfl) ?_
  rintro _ ⟨_, _, _, ⟨rfl, rfl, rfl⟩, rfl⟩
  refine Tops_step rfl (OpT_assign rfl rfl rfl rfl) ?_
  refine Tops_nil (Tk_wkS (fr' := [(2, some (varg21)), (7, some (winV 1 vsm1 bytes1))]) (own' := [some (cellsR b_m 76 [vm1, vm2]), some (rowsX u8S true vm2 vsm1 m.b none)]) (shr' := [Fact.sl RegionS vm1 m.l, Fact.sl u8S varg21 arg2]) [2, 7] [0, 1] [0, 1] rfl rfl rfl rfl ?_)
  rcases onO_cases h with ⟨ho1, h⟩ | ⟨w1, ho1, h⟩
  ·refine Tk_eqv (x := winV 1 vsm1 bytes1) (y := .slice none 0 0) (by rw [ho1]; rfl) (fun z => ⟨[(2, some (varg21)), (7, some (z))], [some (cellsR b_m 76 [vm1, vm2]), some (rowsX u8S true vm2 vsm1 m.b none)], [Fact.sl RegionS vm1 m.l, Fact.sl u8S varg21 arg2]⟩) ?_
   refine Tk_seq (Tk_seq (Tk_region (Tops_step rfl (OpT_move rfl rfl rfl rfl) ?_)))
   refine Tops_step rfl (OpT_eqNilN rfl rfl rfl (.inl rfl) rfl rfl Try.underlying30) ?_
   refine Tops_nil (Tk_wkS (fr' := [(2, some (varg21)), (7, some (.slice none 0 0)), (21, some (vB true))]) (own' := [some (cellsR b_m 76 [vm1, vm2]), some (rowsX u8S true vm2 vsm1 m.b none)]) (shr' := [Fact.sl RegionS vm1 m.l, Fact.sl u8S varg21 arg2]) [2, 7, 21] [0, 1] [0, 1] rfl rfl rfl rfl ?_)
   refine Tk_condT rfl ?_
   refine Tk_seq (Tk_region (Tops_step rfl (OpT_assign rfl rfl rfl rfl) ?_))
   refine Tops_nil (Tk_wkS (fr' := [(6, some (vI (5 : Int)))]) (own' := [some (cellsR b_m 76 [vm1, vm2]), some (rowsX u8S true vm2 vsm1 m.b none)]) (shr' := [Fact.sl RegionS vm1 m.l]) [6] [0, 1] [0] rfl rfl rfl rfl ?_)
   obtain rfl := Option.some.inj h
   exact Tk_retV rfl rfl (resA (vs := [vI (5 : Int)]) rfl ⟨rfl, trivial⟩) [0, 1] [] rfl rfl rfl ⟨rfl, rfl, rfl⟩
  ·refine Tk_eqv (x := winV 1 vsm1 bytes1) (y := subV (vsAt vsm1 (Int.toNat w1.1)) 1 (Int.toNat w1.2.1) (Int.toNat w1.2.2)) (by rw [ho1]; rfl) (fun z => ⟨[(2, some (varg21)), (7, some (z))], [some (cellsR b_m 76 [vm1, vm2]), some (rowsX u8S true vm2 vsm1 m.b none)], [Fact.sl RegionS vm1 m.l, Fact.sl u8S varg21 arg2]⟩) ?_
   obtain ⟨row1, hx3, h⟩ := ob_e h
   refine Tk_vs (vs_focus (i := 1) (j := w1.1) rfl hx3) ?_
   obtain ⟨hc1, h⟩ := chk_e h
   refine Tk_seq (Tk_seq (Tk_region (Tops_step rfl (OpT_move rfl rfl rfl rfl) ?_)))
   obtain ⟨hc2, h⟩ := chk_e h
   refine Tops_step rfl (OpT_eqSub (S := u8S) (l := w1.2.1) (m := w1.2.2) rfl rfl rfl (.inl rfl) rfl rfl Try.underlying30 (i := 2) rfl hc1 hc2) ?_
   refine Tops_nil (Tk_wkS (fr' := [(2, some (varg21)), (7, some (subV (vsAt vsm1 (Int.toNat w1.1)) 1 (Int.toNat w1.2.1) (Int.toNat w1.2.2))), (21, some (vB false))]) (own' := [some (cellsR b_m 76 [vm1, vm2]), some (rowsX u8S true vm2 vsm1 m.b (some (Int.toNat w1.1, vsAt vsm1 (Int.toNat w1.1)))), some (rowS u8S (vsAt vsm1 (Int.toNat w1.1)) row1)]) (shr' := [Fact.sl RegionS vm1 m.l, Fact.sl u8S varg21 arg2]) [2, 7, 21] [0, 1, 2] [0, 1] rfl rfl rfl rfl ?_)
   refine Tk_condF rfl ?_
   refine Tk_skip (Tk_seq (Tk_region (Tops_step rfl (OpT_move rfl rfl rfl rfl) ?_)))
   refine Tops_step rfl (OpT_move rfl rfl rfl rfl) ?_
   refine Tops_step rfl (OpT_copyS (S := u8S) (l := w1.2.1) (m := w1.2.2) rfl rfl rfl rfl rfl rfl slF30 (i := 2) (j := 1) rfl rfl hc1) ?_
   refine Tops_nil (Tk_wkS (fr' := []) (own' := [some (cellsR b_m 76 [vm1, vm2]), some (rowsX u8S true vm2 vsm1 m.b (some (Int.toNat w1.1, vsAt vsm1 (Int.toNat w1.1)))), some (rowS u8S (vsAt vsm1 (Int.toNat w1.1)) (copyAt row1 w1.2.1 w1.2.2 arg2))]) (shr' := [Fact.sl RegionS vm1 m.l]) [] [0, 1, 2] [0] rfl rfl rfl rfl ?_)
   refine Tk_vs (vs_unfocus (i := 1) (q := 2) rfl rfl rfl) ?_
   refine Tk_seq (Tk_region (Tops_step rfl (OpT_assign rfl rfl rfl rfl) ?_))
   refine Tops_nil (Tk_wkS (fr' := [(6, some (vI (0 : Int)))]) (own' := [some (cellsR b_m 76 [vm1, vm2]), some (rowsX u8S true vm2 vsm1 (m.b.set (Int.toNat w1.1) (copyAt row1 w1.2.1 w1.2.2 arg2)) none)]) (shr' := [Fact.sl RegionS vm1 m.l]) [6] [0, 1] [0] rfl rfl rfl rfl ?_)
   obtain rfl := Option.some.inj h
   exact Tk_retV rfl rfl (resA (vs := [vI (0 : Int)]) rfl ⟨rfl, trivial⟩) [0, 1] [] rfl rfl rfl ⟨rfl, rfl, rfl⟩

set_option maxRecDepth 100000 in
set_option maxHeartbeats 4000000 in
theorem w_seg_row_eat {rp0 : List Seg} {np1 : UInt64} {b_rp0 : Nat} {vrp01 : Value} {r : ((List Seg) × (List Seg))} (h : seg_row_eat rp0 np1 = some r) :
  Ctr Try.prog 45 #[.pointer (some ⟨b_rp0, 0, none⟩), vU64 np1] [(cellsR b_rp0 91 [vrp01])] [Fact.sl SegS vrp01 rp0]
   (fun rv own shr => ∃ (w1 : Value), ∃ (w2 : Value), rv = w1 ∧ own = [(cellsR b_rp0 91 [w2]), (rowS SegS w1 r.1)] ∧ shr = [Fact.sl SegS w2 r.2]) := by
 unfold seg_row_eat at h
 refine Ctr.mk (args := [.pointer (some ⟨b_rp0, 0, none⟩), vU64 np1]) Try.func45 rfl rfl (fun R0 w0 B => ?_)
 refine Tk_seq (Tk_region (Tops_step rfl (OpT_assign rfl rfl rfl rfl) ?_))
 refine Tops_nil (Tk_seq (Tk_block (Tk_nilrow SegS ?_)))
 refine Tk_loopS (σ := (List Seg) × UInt64 × (List Seg) × Value × Value) [0, 1, 4] [0, 1] [0] (fun s => ⟨[(0, some (.pointer (some ⟨b_rp0, 0, none⟩))), (1, some (vU64 s.2.1)), (4, some (s.2.2.2.2))], [some (cellsR b_rp0 91 [s.2.2.2.1]), some (rowS SegS s.2.2.2.2 s.2.2.1)], [Fact.sl SegS s.2.2.2.1 s.1]⟩) (fun nf1 s => seg_row_eatL1 nf1 s.1 s.2.1 s.2.2.1 = some r) fuel (rp0, np1, [], vrp01, (.slice none 0 0)) h rfl rfl rfl rfl rfl (fun s h => by cases h) ?_
 rintro nf1 ⟨m1, n1, out1, v1, v2⟩ h
 replace h : seg_row_eatL1B (seg_row_eatL1 nf1) m1 n1 out1 = some r := h
 unfold seg_row_eatL1B at h
 refine Tk_seq (Tk_seq (Tk_region (Tops_step rfl (OpT_move rfl rfl rfl rfl) ?_)))
 refine Tops_step rfl (OpT_bin rfl rfl rfl rfl rfl (bin_gtr_u64 (a := n1) (b := (0 : UInt64)))) ?_
 refine Tops_step rfl (OpT_move rfl rfl rfl rfl) ?_
 rcases Bool.eq_false_or_eq_true (decide (n1 > (0 : UInt64))) with hg1 | hg1
 ·replace h := br_t hg1 h
  refine Tops_yes rfl rfl (congrArg (fun b => some (Value.bool b)) hg1) (OpT_move rfl rfl rfl rfl) ?_
  rintro _ rfl
  refine Tops_yes rfl rfl (congrArg (fun b => some (Value.bool b)) hg1) (OpT_nilCheckP rfl rfl rfl rfl) ?_
  rintro _ rfl
  refine Tops_yes rfl rfl (congrArg (fun b => some (Value.bool b)) hg1) (OpT_loadC rfl rfl rfl rfl tyF91 (i := 0) rfl rfl) ?_
  rintro _ rfl
  refine Tops_yes rfl rfl (congrArg (fun b => some (Value.bool b)) hg1) (OpT_lenS rfl rfl rfl rfl Try.underlying91 (i := 0) rfl) ?_
  rintro _ rfl
  refine Tops_yes rfl rfl (congrArg (fun b => some (Value.bool b)) hg1) (OpT_bin rfl rfl rfl rfl rfl (bin_gtr_i (a := len m1) (b := (0 : Int)))) ?_
  rintro _ rfl
  refine Tops_step rfl (OpT_pickT rfl rfl rfl (congrArg (fun b => some (Value.bool b)) hg1) rfl) ?_
  refine Tops_nil (Tk_wkS (fr' := [(0, some (.pointer (some ⟨b_rp0, 0, none⟩))), (1, some (vU64 n1)), (4, some (v2)), (15, some (vB (decide ((len m1) > (0 : Int)))))]) (own' := [some (cellsR b_rp0 91 [v1]), some (rowS SegS v2 out1)]) (shr' := [Fact.sl SegS v1 m1]) [0, 1, 4, 15] [0, 1] [0] rfl rfl rfl rfl ?_)
  rcases Bool.eq_false_or_eq_true (decide ((len m1) > (0 : Int))) with hg2 | hg2
  ·replace h := br_t hg2 h
   refine Tk_condT (congrArg (fun b => some (Value.bool b)) hg2) ?_
   refine Tk_skip (Tk_block (Tk_seq (Tk_region (Tops_step rfl (OpT_move rfl rfl rfl rfl) ?_))))
   refine Tops_step rfl (OpT_nilCheckP rfl rfl rfl rfl) ?_
   refine Tops_step rfl (OpT_loadC rfl rfl rfl rfl tyF91 (i := 0) rfl rfl) ?_
   obtain ⟨s1, hx1, h⟩ := ob_e h
   refine Tops_ex rfl (OpT_idxS rfl rfl rfl rfl rfl slF91 (i := 0) rfl hx1) fun p1 => ?_
   refine Tops_step rfl (OpT_loadPA (vs := [vU64 s1.At, vU32 s1.Len, vB s1.Write]) rfl rfl rfl rfl tyF81 (i := 1) rfl rfl) ?_
   refine Tops_ex rfl (OpT_alloc rfl rfl rfl tyZ81) fun b1 => ?_
   refine Tops_step rfl (OpT_storeC (cs' := [vU64 s1.At, vU32 s1.Len, vB s1.Write]) rfl rfl rfl rfl tyF81 (i := 2) rfl rfl rfl (one_of rfl) rfl) ?_
   refine Tops_nil (Tk_wkS (fr' := [(0, some (.pointer (some ⟨b_rp0, 0, none⟩))), (1, some (vU64 n1)), (4, some (v2)), (5, some (.pointer (some ⟨b1, 0, none⟩)))]) (own' := [some (cellsR b_rp0 91 [v1]), some (rowS SegS v2 out1), some (cellsR b1 81 [vU64 s1.At, vU32 s1.Len, vB s1.Write])]) (shr' := [Fact.sl SegS v1 m1]) [0, 1, 4, 5] [0, 1, 2] [0] rfl rfl rfl rfl ?_)
   refine Tk_seq (Tk_region (Tops_step rfl (OpT_move rfl rfl rfl rfl) ?_))
   refine Tops_step rfl (OpT_fieldC rfl rfl rfl rfl fldF81x1) ?_
   refine Tops_step rfl (OpT_loadC rfl rfl rfl rfl tyF50 (i := 2) rfl rfl) ?_
   refine Tops_step rfl (OpT_cnv rfl rfl rfl rfl (cnv_u32_u64 (n := s1.Len) Try.underlying50 Try.underlying38)) ?_
   refine Tops_step rfl (OpT_min_u64 (u := n1) (v := s1.Len.toUInt64) rfl rfl rfl rfl rfl) ?_
   refine Tops_step rfl (OpT_assign rfl rfl rfl rfl) ?_
   refine Tops_nil (Tk_wkS (fr' := [(0, some (.pointer (some ⟨b_rp0, 0, none⟩))), (1, some (vU64 n1)), (4, some (v2)), (5, some (.pointer (some ⟨b1, 0, none⟩))), (6, some (vU64 (minu64 n1 s1.Len.toUInt64)))]) (own' := [some (cellsR b_rp0 91 [v1]), some (rowS SegS v2 out1), some (cellsR b1 81 [vU64 s1.At, vU32 s1.Len, vB s1.Write])]) (shr' := [Fact.sl SegS v1 m1]) [0, 1, 4, 5, 6] [0, 1, 2] [0] rfl rfl rfl rfl ?_)
   refine Tk_seq (Tk_region (Tops_step rfl (OpT_move rfl rfl rfl rfl) ?_))
   refine Tops_step rfl (OpT_fieldC rfl rfl rfl rfl fldF81x0) ?_
   refine Tops_step rfl (OpT_loadC rfl rfl rfl rfl tyF38 (i := 2) rfl rfl) ?_
   refine Tops_step rfl (OpT_move rfl rfl rfl rfl) ?_
   refine Tops_step rfl (OpT_cnv rfl rfl rfl rfl (cnv_u64_u32 (n := minu64 n1 s1.Len.toUInt64) Try.underlying38 Try.underlying50)) ?_
   refine Tops_step rfl (OpT_fieldC rfl rfl rfl rfl fldF81x2) ?_
   refine Tops_step rfl (OpT_loadC rfl rfl rfl rfl tyF4 (i := 2) rfl rfl) ?_
   refine Tops_step rfl (OpT_build (v := .agg #[vU64 s1.At, vU32 ((minu64 n1 s1.Len.toUInt64).toUInt32), vB s1.Write]) rfl rfl rfl rfl (bldV (by kernel_rfl))) ?_
   refine Tops_ex rfl (OpT_buildSlice (S := SegS) (xs := [(Seg.mk s1.At ((minu64 n1 s1.Len.toUInt64).toUInt32) s1.Write)]) (css := [[vU64 s1.At, vU32 ((minu64 n1 s1.Len.toUInt64).toUInt32), vB s1.Write]]) (cs := [vU64 s1.At, vU32 ((minu64 n1 s1.Len.toUInt64).toUInt32), vB s1.Write]) (e := 81) rfl rfl rfl rfl (bldF slF49 (by decide) (by kernel_rfl)) rfl rfl rfl rfl (rel_plainD (S := SegS) (xs := [(Seg.mk s1.At ((minu64 n1 s1.Len.toUInt64).toUInt32) s1.Write)]) (css := [[vU64 s1.At, vU32 ((minu64 n1 s1.Len.toUInt64).toUInt32), vB s1.Write]]) rfl rfl)) fun v3 => ?_
   obtain ⟨hc1, h⟩ := chk_e h
   refine Tops_ex rfl (OpT_appendB (S := SegS) rfl rfl rfl rfl rfl rfl slF49 (i := 1) (j := 3) rfl rfl hc1) fun v4 => ?_
   refine Tops_step rfl (OpT_assign rfl rfl rfl rfl) ?_
   refine Tops_nil (Tk_wkS (fr' := [(0, some (.pointer (some ⟨b_rp0, 0, none⟩))), (1, some (vU64 n1)), (4, some (v4)), (5, some (.pointer (some ⟨b1, 0, none⟩))), (6, some (vU64 (minu64 n1 s1.Len.toUInt64)))]) (own' := [some (cellsR b_rp0 91 [v1]), some (rowS SegS v4 (out1 ++ [(Seg.mk s1.At ((minu64 n1 s1.Len.toUInt64).toUInt32) s1.Write)])), some (cellsR b1 81 [vU64 s1.At, vU32 s1.Len, vB s1.Write])]) (shr' := [Fact.sl SegS v1 m1]) [0, 1, 4, 5, 6] [0, 1, 2] [0] rfl rfl rfl rfl ?_)
   refine Tk_seq (Tk_region (Tops_step rfl (OpT_move rfl rfl rfl rfl) ?_))
   refine Tops_step rfl (OpT_move rfl rfl rfl rfl) ?_
   refine Tops_step rfl (OpT_bin rfl rfl rfl rfl rfl (bin_sub_u64 (a := n1) (b := minu64 n1 s1.Len.toUInt64))) ?_
   refine Tops_step rfl (OpT_assign rfl rfl rfl rfl) ?_
   refine Tops_nil (Tk_wkS (fr' := [(0, some (.pointer (some ⟨b_rp0, 0, none⟩))), (1, some (vU64 (n1 - (minu64 n1 s1.Len.toUInt64)))), (4, some (v4)), (5, some (.pointer (some ⟨b1, 0, none⟩))), (6, some (vU64 (minu64 n1 s1.Len.toUInt64)))]) (own' := [some (cellsR b_rp0 91 [v1]), some (rowS SegS v4 (out1 ++ [(Seg.mk s1.At ((minu64 n1 s1.Len.toUInt64).toUInt32) s1.Write)])), some (cellsR b1 81 [vU64 s1.At, vU32 s1.Len, vB s1.Write])]) (shr' := [Fact.sl SegS v1 m1]) [0, 1, 4, 5, 6] [0, 1, 2] [0] rfl rfl rfl rfl ?_)
   refine Tk_seq (Tk_seq (Tk_region (Tops_step rfl (OpT_move rfl rfl rfl rfl) ?_)))
   refine Tops_step rfl (OpT_fieldC rfl rfl rfl rfl fldF81x1) ?_
   refine Tops_step rfl (OpT_loadC rfl rfl rfl rfl tyF50 (i := 2) rfl rfl) ?_
   refine Tops_step rfl (OpT_cnv rfl rfl rfl rfl (cnv_u32_u64 (n := s1.Len) Try.underlying50 Try.underlying38)) ?_
   refine Tops_step rfl (OpT_bin rfl rfl rfl rfl rfl (bin_lss_u64 (a := minu64 n1 s1.Len.toUInt64) (b := s1.Len.toUInt64))) ?_
   refine Tops_nil (Tk_wkS (fr' := [(0, some (.pointer (some ⟨b_rp0, 0, none⟩))), (1, some (vU64 (n1 - (minu64 n1 s1.Len.toUInt64)))), (4, some (v4)), (5, some (.pointer (some ⟨b1, 0, none⟩))), (6, some (vU64 (minu64 n1 s1.Len.toUInt64))), (43, some (vB (decide ((minu64 n1 s1.Len.toUInt64) < s1.Len.toUInt64))))]) (own' := [some (cellsR b_rp0 91 [v1]), some (rowS SegS v4 (out1 ++ [(Seg.mk s1.At ((minu64 n1 s1.Len.toUInt64).toUInt32) s1.Write)])), some (cellsR b1 81 [vU64 s1.At, vU32 s1.Len, vB s1.Write])]) (shr' := [Fact.sl SegS v1 m1]) [0, 1, 4, 5, 6, 43] [0, 1, 2] [0] rfl rfl rfl rfl ?_)
   rcases Bool.eq_false_or_eq_true (decide ((minu64 n1 s1.Len.toUInt64) < s1.Len.toUInt64)) with hg3 | hg3
   ·replace h := br_t hg3 h
    refine Tk_condT (congrArg (fun b => some (Value.bool b)) hg3) ?_
    refine Tk_seq (Tk_drawT (by kernel_rfl) ?_)
    refine TA_tb [0, 0, 2, 0, 14, 0, 32, 0, 128, 480, 0, 1024, 4094, 8190, 0, 16384, 49152, 114688, 262142, 524287, 1048575] (by kernel_rfl) fun htb => ?_
    refine TA_wkS (fr' := [(0, some (.pointer (some ⟨b_rp0, 0, none⟩))), (4, some (v4)), (5, some (.pointer (some ⟨b1, 0, none⟩))), (6, some (vU64 (minu64 n1 s1.Len.toUInt64)))]) (own' := [some (cellsR b_rp0 91 [v1]), some (rowS SegS v4 (out1 ++ [(Seg.mk s1.At ((minu64 n1 s1.Len.toUInt64).toUInt32) s1.Write)])), some (cellsR b1 81 [vU64 s1.At, vU32 s1.Len, vB s1.Write])]) (shr' := [Fact.sl SegS v1 m1]) [0, 4, 5, 6] [0, 1, 2] [0] rfl rfl rfl rfl ?_
    obtain ⟨hc2, h⟩ := chk_e h
    obtain ⟨hc3, h⟩ := chk_e h
    refine TA_seg (lo := 0) (hi := 19) htb rfl rfl (by kernel_rfl) (fun c L a w => ∃ (v5 : Value), ∃ (v6 : Value), ∃ (v7 : Value), Sat c ⟨[(0, some (.pointer (some ⟨b_rp0, 0, none⟩))), (4, some (v4)), (5, some (.pointer (some ⟨b1, 0, none⟩))), (6, some (vU64 (minu64 n1 s1.Len.toUInt64))), (44, bif L 0 then some (.pointer (some ⟨b_rp0, 0, none⟩)) else none), (45, bif L 1 then some (.pointer (some ⟨b1, 0, none⟩)) else none), (46, bif L 2 then some (vU64 s1.At) else none), (47, bif L 3 then some (vU64 (minu64 n1 s1.Len.toUInt64)) else none), (48, bif L 4 then some (vU64 (s1.At + (minu64 n1 s1.Len.toUInt64))) else none), (49, bif L 5 then some (.pointer (some ⟨b1, 1, none⟩)) else none), (50, bif L 6 then some (vU32 s1.Len) else none), (51, bif L 7 then some (vU64 (minu64 n1 s1.Len.toUInt64)) else none), (52, bif L 8 then some (vU32 ((minu64 n1 s1.Len.toUInt64).toUInt32)) else none), (53, bif L 9 then some (vU32 (s1.Len - ((minu64 n1 s1.Len.toUInt64).toUInt32))) else none), (54, bif L 10 then some (.pointer (some ⟨b1, 2, none⟩)) else none), (55, bif L 11 then some (vB s1.Write) else none), (56, bif L 12 then some (.agg #[vU64 (s1.At + (minu64 n1 s1.Len.toUInt64)), vU32 (s1.Len - ((minu64 n1 s1.Len.toUInt64).toUInt32)), vB s1.Write]) else none), (57, bif L 13 then some (v5) else none), (58, bif L 14 then some (.pointer (some ⟨b_rp0, 0, none⟩)) else none), (59, bif L 15 then some (.pointer (some ⟨b_rp0, 0, none⟩)) else none), (60, bif L 16 then some (v1) else none), (61, bif L 17 then some (v6) else none), (62, bif L 18 then some (v7) else none)], [(some (cellsR b_rp0 91 [v1]) : Option Res), (some (rowS SegS v4 (out1 ++ [(Seg.mk s1.At ((minu64 n1 s1.Len.toUInt64).toUInt32) s1.Write)])) : Option Res), (some (cellsR b1 81 [vU64 s1.At, vU32 s1.Len, vB s1.Write]) : Option Res), (bif L 18 then some (rowS SegS v7 ([(Seg.mk (s1.At + (minu64 n1 s1.Len.toUInt64)) (s1.Len - ((minu64 n1 s1.Len.toUInt64).toUInt32)) s1.Write)] ++ (sub m1 (1 : Int) (len m1)))) else bif L 13 then some (rowS SegS v5 [(Seg.mk (s1.At + (minu64 n1 s1.Len.toUInt64)) (s1.Len - ((minu64 n1 s1.Len.toUInt64).toUInt32)) s1.Write)]) else none : Option Res)], [Fact.sl SegS v1 m1, (bif L 17 then Fact.sl SegS v6 (sub m1 (1 : Int) (len m1)) else Fact.tt)]⟩ a w) [([], []), ([], [2, 4, 12, 13, 18]), ([1], [4, 12, 13, 18]), ([], [4, 12, 13, 18]), ([1, 2, 3], [12, 13, 18]), ([], [6, 9, 12, 13, 18]), ([5], [9, 12, 13, 18]), ([], [8, 9, 12, 13, 18]), ([7], [9, 12, 13, 18]), ([5, 6, 7, 8], [12, 13, 18]), ([], [11, 12, 13, 18]), ([10], [12, 13, 18]), ([1, 2, 3, 4, 5, 6, 7, 8, 9, 10, 11], [13, 18]), ([1, 2, 3, 4, 5, 6, 7, 8, 9, 10, 11, 12], [18]), ([], [15, 16, 17, 18]), ([14], [16, 17, 18]), ([14, 15], [17, 18]), ([14, 15, 16], [18]), ([1, 2, 3, 4, 5, 6, 7, 8, 9, 10, 11, 12, 13, 14, 15, 16, 17], [])] rfl (by kernel_rfl) ?_ (steps_cons ?_ (steps_cons ?_ (steps_cons ?_ (steps_cons ?_ (steps_cons ?_ (steps_cons ?_ (steps_cons ?_ (steps_cons ?_ (steps_cons ?_ (steps_cons ?_ (steps_cons ?_ (steps_cons ?_ (steps_cons ?_ (steps_cons ?_ (steps_cons ?_ (steps_cons ?_ (steps_cons ?_ (steps_cons ?_ (steps_cons ?_ (steps_nil)))))))))))))))))))) ?_
    ·intro a w hs
     exact ⟨undef, undef, undef, hs.startF [44, 45, 46, 47, 48, 49, 50, 51, 52, 53, 54, 55, 56, 57, 58, 59, 60, 61, 62] [0, 1, 2, 3] [0, 1] rfl rfl rfl rfl⟩
    ·intro L a w hv K Q hK
     obtain ⟨v5, v6, v7, hs⟩ := hv
     refine wpOp_go rfl rfl hs (OpT_move rfl rfl rfl rfl) ?_
     rintro _ rfl a' w' hs'
     exact hK a' w' ⟨v5, v6, v7, hs'.putF (i := 4) rfl [0, 1, 2, 3] [0, 1] rfl rfl rfl rfl⟩
    ·intro L a w hv K Q hK
     obtain ⟨v5, v6, v7, hs⟩ := hv
     refine wpOp_go rfl rfl hs (OpT_fieldC rfl rfl rfl rfl fldF81x0) ?_
     rintro _ rfl a' w' hs'
     exact hK a' w' ⟨v5, v6, v7, hs'.putF (i := 5) rfl [0, 1, 2, 3] [0, 1] rfl rfl rfl rfl⟩
    ·intro L a w hv K Q hK
     obtain ⟨v5, v6, v7, hs⟩ := hv
     refine wpOp_go rfl rfl hs (OpT_loadC rfl rfl rfl rfl tyF38 (i := 2) rfl rfl) ?_
     rintro _ rfl a' w' hs'
     exact hK a' w' ⟨v5, v6, v7, hs'.putF (i := 6) rfl [0, 1, 2, 3] [0, 1] rfl rfl rfl rfl⟩
    ·intro L a w hv K Q hK
     obtain ⟨v5, v6, v7, hs⟩ := hv
     refine wpOp_go rfl rfl hs (OpT_move rfl rfl rfl rfl) ?_
     rintro _ rfl a' w' hs'
     exact hK a' w' ⟨v5, v6, v7, hs'.putF (i := 7) rfl [0, 1, 2, 3] [0, 1] rfl rfl rfl rfl⟩
    ·intro L a w hv K Q hK
     obtain ⟨v5, v6, v7, hs⟩ := hv
     refine wpOp_go rfl rfl hs (OpT_bin rfl rfl rfl rfl rfl (bin_add_u64 (a := s1.At) (b := minu64 n1 s1.Len.toUInt64))) ?_
     rintro _ rfl a' w' hs'
     exact hK a' w' ⟨v5, v6, v7, hs'.putF (i := 8) rfl [0, 1, 2, 3] [0, 1] rfl rfl rfl rfl⟩
    ·intro L a w hv K Q hK
     obtain ⟨v5, v6, v7, hs⟩ := hv
     refine wpOp_go rfl rfl hs (OpT_fieldC rfl rfl rfl rfl fldF81x1) ?_
     rintro _ rfl a' w' hs'
     exact hK a' w' ⟨v5, v6, v7, hs'.putF (i := 9) rfl [0, 1, 2, 3] [0, 1] rfl rfl rfl rfl⟩
    ·intro L a w hv K Q hK
     obtain ⟨v5, v6, v7, hs⟩ := hv
     refine wpOp_go rfl rfl hs (OpT_loadC rfl rfl rfl rfl tyF50 (i := 2) rfl rfl) ?_
     rintro _ rfl a' w' hs'
     exact hK a' w' ⟨v5, v6, v7, hs'.putF (i := 10) rfl [0, 1, 2, 3] [0, 1] rfl rfl rfl rfl⟩
    ·intro L a w hv K Q hK
     obtain ⟨v5, v6, v7, hs⟩ := hv
     refine wpOp_go rfl rfl hs (OpT_move rfl rfl rfl rfl) ?_
     rintro _ rfl a' w' hs'
     exact hK a' w' ⟨v5, v6, v7, hs'.putF (i := 11) rfl [0, 1, 2, 3] [0, 1] rfl rfl rfl rfl⟩
    ·intro L a w hv K Q hK
     obtain ⟨v5, v6, v7, hs⟩ := hv
     refine wpOp_go rfl rfl hs (OpT_cnv rfl rfl rfl rfl (cnv_u64_u32 (n := minu64 n1 s1.Len.toUInt64) Try.underlying38 Try.underlying50)) ?_
     rintro _ rfl a' w' hs'
     exact hK a' w' ⟨v5, v6, v7, hs'.putF (i := 12) rfl [0, 1, 2, 3] [0, 1] rfl rfl rfl rfl⟩
    ·intro L a w hv K Q hK
     obtain ⟨v5, v6, v7, hs⟩ := hv
     refine wpOp_go rfl rfl hs (OpT_bin rfl rfl rfl rfl rfl (bin_sub_u32 (a := s1.Len) (b := (minu64 n1 s1.Len.toUInt64).toUInt32))) ?_
     rintro _ rfl a' w' hs'
     exact hK a' w' ⟨v5, v6, v7, hs'.putF (i := 13) rfl [0, 1, 2, 3] [0, 1] rfl rfl rfl rfl⟩
    ·intro L a w hv K Q hK
     obtain ⟨v5, v6, v7, hs⟩ := hv
     refine wpOp_go rfl rfl hs (OpT_fieldC rfl rfl rfl rfl fldF81x2) ?_
     rintro _ rfl a' w' hs'
     exact hK a' w' ⟨v5, v6, v7, hs'.putF (i := 14) rfl [0, 1, 2, 3] [0, 1] rfl rfl rfl rfl⟩
    ·intro L a w hv K Q hK
     obtain ⟨v5, v6, v7, hs⟩ := hv
     refine wpOp_go rfl rfl hs (OpT_loadC rfl rfl rfl rfl tyF4 (i := 2) rfl rfl) ?_
     rintro _ rfl a' w' hs'
     exact hK a' w' ⟨v5, v6, v7, hs'.putF (i := 15) rfl [0, 1, 2, 3] [0, 1] rfl rfl rfl rfl⟩
    ·intro L a w hv K Q hK
     obtain ⟨v5, v6, v7, hs⟩ := hv
     refine wpOp_go rfl rfl hs (OpT_build (v := .agg #[vU64 (s1.At + (minu64 n1 s1.Len.toUInt64)), vU32 (s1.Len - ((minu64 n1 s1.Len.toUInt64).toUInt32)), vB s1.Write]) rfl rfl rfl rfl (bldV (by kernel_rfl))) ?_
     rintro _ rfl a' w' hs'
     exact hK a' w' ⟨v5, v6, v7, hs'.putF (i := 16) rfl [0, 1, 2, 3] [0, 1] rfl rfl rfl rfl⟩
    ·intro L a w hv K Q hK
     obtain ⟨v5, v6, v7, hs⟩ := hv
     refine wpOp_go rfl rfl hs (OpT_buildSlice (S := SegS) (xs := [(Seg.mk (s1.At + (minu64 n1 s1.Len.toUInt64)) (s1.Len - ((minu64 n1 s1.Len.toUInt64).toUInt32)) s1.Write)]) (css := [[vU64 (s1.At + (minu64 n1 s1.Len.toUInt64)), vU32 (s1.Len - ((minu64 n1 s1.Len.toUInt64).toUInt32)), vB s1.Write]]) (cs := [vU64 (s1.At + (minu64 n1 s1.Len.toUInt64)), vU32 (s1.Len - ((minu64 n1 s1.Len.toUInt64).toUInt32)), vB s1.Write]) (e := 81) rfl rfl rfl rfl (bldF slF91 (by decide) (by kernel_rfl)) rfl rfl rfl rfl (rel_plainD (S := SegS) (xs := [(Seg.mk (s1.At + (minu64 n1 s1.Len.toUInt64)) (s1.Len - ((minu64 n1 s1.Len.toUInt64).toUInt32)) s1.Write)]) (css := [[vU64 (s1.At + (minu64 n1 s1.Len.toUInt64)), vU32 (s1.Len - ((minu64 n1 s1.Len.toUInt64).toUInt32)), vB s1.Write]]) rfl rfl)) ?_
     rintro _ ⟨v5', rfl⟩ a' w' hs'
     exact hK a' w' ⟨v5', v6, v7, hs'.putF (i := 17) rfl [0, 1, 2, 4] [0, 1] rfl rfl rfl rfl⟩
    ·intro L a w hv K Q hK
     obtain ⟨v5, v6, v7, hs⟩ := hv
     refine wpOp_go rfl rfl hs (OpT_move rfl rfl rfl rfl) ?_
     rintro _ rfl a' w' hs'
     exact hK a' w' ⟨v5, v6, v7, hs'.putF (i := 18) rfl [0, 1, 2, 3] [0, 1] rfl rfl rfl rfl⟩
    ·intro L a w hv K Q hK
     obtain ⟨v5, v6, v7, hs⟩ := hv
     refine wpOp_go rfl rfl hs (OpT_nilCheckP rfl rfl rfl rfl) ?_
     rintro _ rfl a' w' hs'
     exact hK a' w' ⟨v5, v6, v7, hs'.putF (i := 19) rfl [0, 1, 2, 3] [0, 1] rfl rfl rfl rfl⟩
    ·intro L a w hv K Q hK
     obtain ⟨v5, v6, v7, hs⟩ := hv
     refine wpOp_go rfl rfl hs (OpT_loadC rfl rfl rfl rfl tyF91 (i := 0) rfl rfl) ?_
     rintro _ rfl a' w' hs'
     exact hK a' w' ⟨v5, v6, v7, hs'.putF (i := 20) rfl [0, 1, 2, 3] [0, 1] rfl rfl rfl rfl⟩
    ·intro L a w hv K Q hK
     obtain ⟨v5, v6, v7, hs⟩ := hv
     refine wpOp_go rfl rfl hs (OpT_sliceL (l := (1 : Int)) rfl rfl rfl rfl rfl slF91 (i := 0) rfl hc2) ?_
     rintro _ ⟨v6', rfl⟩ a' w' hs'
     exact hK a' w' ⟨v5, v6', v7, hs'.putF (i := 21) rfl [0, 1, 2, 3] [0, 2] rfl rfl rfl rfl⟩
    ·intro L a w hv K Q hK
     obtain ⟨v5, v6, v7, hs⟩ := hv
     refine wpOp_go rfl rfl hs (OpT_append rfl rfl rfl rfl rfl slF91 (i := 3) (j := 1) rfl rfl hc3) ?_
     rintro _ ⟨v7', rfl⟩ a' w' hs'
     exact hK a' w' ⟨v5, v6, v7', hs'.putF (i := 22) rfl [0, 1, 2, 3] [0, 1] rfl rfl rfl rfl⟩
    ·intro L a w hL hv
     rw [allTrue hL] at hv
     obtain ⟨v5, v6, v7, hs⟩ := hv
     refine (show TA _ _ _ 19 ⟨[(4, some (v4)), (44, some (.pointer (some ⟨b_rp0, 0, none⟩))), (62, some (v7))], [some (cellsR b_rp0 91 [v1]), some (rowS SegS v4 (out1 ++ [(Seg.mk s1.At ((minu64 n1 s1.Len.toUInt64).toUInt32) s1.Write)])), some (rowS SegS v7 ([(Seg.mk (s1.At + (minu64 n1 s1.Len.toUInt64)) (s1.Len - ((minu64 n1 s1.Len.toUInt64).toUInt32)) s1.Write)] ++ (sub m1 (1 : Int) (len m1))))], [Fact.sl SegS v1 m1]⟩ from ?_) a w (hs.wkS [4, 44, 62] [0, 1, 3] [0] rfl rfl rfl rfl)
     clear hs hL
     refine TA_step htb (by kernel_rfl) rfl rfl (OpT_nilCheckP rfl rfl rfl rfl) ?_
     refine TA_step htb (by kernel_rfl) rfl rfl (OpT_storeV (cs' := [v7]) rfl rfl rfl rfl tyF91 (i := 0) rfl (is_row (i := 2) rfl) rfl rfl) ?_
     refine TA_end rfl ?_
     refine Tk_wkS (fr' := [(4, some (v4))]) (own' := [some (cellsR b_rp0 91 [v7]), some (rowS SegS v4 (out1 ++ [(Seg.mk s1.At ((minu64 n1 s1.Len.toUInt64).toUInt32) s1.Write)])), some (rowS SegS v7 ([(Seg.mk (s1.At + (minu64 n1 s1.Len.toUInt64)) (s1.Len - ((minu64 n1 s1.Len.toUInt64).toUInt32)) s1.Write)] ++ (sub m1 (1 : Int) (len m1))))]) (shr' := []) [4] [0, 1, 2] [] rfl rfl rfl rfl ?_
     refine Tk_seq (Tk_region (Tops_step rfl (OpT_move rfl rfl rfl rfl) ?_))
     refine Tops_step rfl (OpT_assign rfl rfl rfl rfl) ?_
     refine Tops_nil (Tk_wkS (fr' := [(4, some (v4))]) (own' := [some (cellsR b_rp0 91 [v7]), some (rowS SegS v4 (out1 ++ [(Seg.mk s1.At ((minu64 n1 s1.Len.toUInt64).toUInt32) s1.Write)])), some (rowS SegS v7 ([(Seg.mk (s1.At + (minu64 n1 s1.Len.toUInt64)) (s1.Len - ((minu64 n1 s1.Len.toUInt64).toUInt32)) s1.Write)] ++ (sub m1 (1 : Int) (len m1))))]) (shr' := []) [4] [0, 1, 2] [] rfl rfl rfl rfl ?_)
     refine Tk_retire (i := 2) rfl ?_
     obtain rfl := Option.some.inj h
     exact Tk_retV rfl rfl (resA (vs := [v4]) rfl ⟨rfl, trivial⟩) [0, 1] [0] rfl rfl rfl ⟨v4, v7, rfl, rfl, rfl⟩
   ·replace h := br_f hg3 h
    refine Tk_condF (congrArg (fun b => some (Value.bool b)) hg3) ?_
    refine Tk_skip (Tk_region (Tops_step rfl (OpT_move rfl rfl rfl rfl) ?_))
    refine Tops_step rfl (OpT_move rfl rfl rfl rfl) ?_
    refine Tops_step rfl (OpT_nilCheckP rfl rfl rfl rfl) ?_
    refine Tops_step rfl (OpT_loadC rfl rfl rfl rfl tyF91 (i := 0) rfl rfl) ?_
    obtain ⟨hc4, h⟩ := chk_e h
    refine Tops_ex rfl (OpT_sliceL (l := (1 : Int)) rfl rfl rfl rfl rfl slF91 (i := 0) rfl hc4) fun v8 => ?_
    refine Tops_step rfl (OpT_nilCheckP rfl rfl rfl rfl) ?_
    refine Tops_step rfl (OpT_storeV (cs' := [v8]) rfl rfl rfl rfl tyF91 (i := 0) rfl (is_sl (i := 1) rfl) rfl rfl) ?_
    refine Tops_nil (Tk_wkS (fr' := [(0, some (.pointer (some ⟨b_rp0, 0, none⟩))), (1, some (vU64 (n1 - (minu64 n1 s1.Len.toUInt64)))), (4, some (v4))]) (own' := [some (cellsR b_rp0 91 [v8]), some (rowS SegS v4 (out1 ++ [(Seg.mk s1.At ((minu64 n1 s1.Len.toUInt64).toUInt32) s1.Write)]))]) (shr' := [Fact.sl SegS v8 (sub m1 (1 : Int) (len m1))]) [0, 1, 4] [0, 1] [1] rfl rfl rfl rfl ?_)
    refine Tk_blk ?_
    exact Tk_backS (sub m1 (1 : Int) (len m1), n1 - (minu64 n1 s1.Len.toUInt64), out1 ++ [(Seg.mk s1.At ((minu64 n1 s1.Len.toUInt64).toUInt32) s1.Write)], v8, v4) h [0, 1, 4] [0, 1] [0] rfl rfl rfl rfl rfl
  ·replace h := br_f hg2 h
   refine Tk_condF (congrArg (fun b => some (Value.bool b)) hg2) ?_
   refine Tk_exit _ rfl ?_
   refine Tk_seq (Tk_region (Tops_step rfl (OpT_move rfl rfl rfl rfl) ?_))
   refine Tops_step rfl (OpT_assign rfl rfl rfl rfl) ?_
   refine Tops_nil (Tk_wkS (fr' := [(4, some (v2))]) (own' := [some (cellsR b_rp0 91 [v1]), some (rowS SegS v2 out1)]) (shr' := [Fact.sl SegS v1 m1]) [4] [0, 1] [0] rfl rfl rfl rfl ?_)
   obtain rfl := Option.some.inj h
   exact Tk_retV rfl rfl (resA (vs := [v2]) rfl ⟨rfl, trivial⟩) [0, 1] [0] rfl rfl rfl ⟨v2, v1, rfl, rfl, rfl⟩
 ·replace h := br_f hg1 h
  refine Tops_no rfl rfl (congrArg (fun b => some (Value.bool b)) hg1) rfl rfl ?_
  refine Tops_no rfl rfl (congrArg (fun b => some (Value.bool b)) hg1) rfl rfl ?_
  refine Tops_no rfl rfl (congrArg (fun b => some (Value.bool b)) hg1) rfl rfl ?_
  refine Tops_no rfl rfl (congrArg (fun b => some (Value.bool b)) hg1) rfl rfl ?_
  refine Tops_no rfl rfl (congrArg (fun b => some (Value.bool b)) hg1) rfl rfl ?_
  refine Tops_step rfl (OpT_pickF rfl rfl rfl (congrArg (fun b => some (Value.bool b)) hg1) rfl) ?_
  refine Tops_nil (Tk_wkS (fr' := [(0, some (.pointer (some ⟨b_rp0, 0, none⟩))), (1, some (vU64 n1)), (4, some (v2)), (15, some (vB false))]) (own' := [some (cellsR b_rp0 91 [v1]), some (rowS SegS v2 out1)]) (shr' := [Fact.sl SegS v1 m1]) [0, 1, 4, 15] [0, 1] [0] rfl rfl rfl rfl ?_)
  refine Tk_condF rfl ?_
  refine Tk_exit _ rfl ?_
  refine Tk_seq (Tk_region (Tops_step rfl (OpT_move rfl rfl rfl rfl) ?_))
  refine Tops_step rfl (OpT_assign rfl rfl rfl rfl) ?_
  refine Tops_nil (Tk_wkS (fr' := [(4, some (v2))]) (own' := [some (cellsR b_rp0 91 [v1]), some (rowS SegS v2 out1)]) (shr' := [Fact.sl SegS v1 m1]) [4] [0, 1] [0] rfl rfl rfl rfl ?_)
  obtain rfl := Option.some.inj h
  exact Tk_retV rfl rfl (resA (vs := [v2]) rfl ⟨rfl, trivial⟩) [0, 1] [0] rfl rfl rfl ⟨v2, v1, rfl, rfl, rfl⟩

set_option maxRecDepth 100000 in
set_option maxHeartbeats 4000000 in
theorem w_seg_Scatter {m : gmem_Mem} {l : List Seg} {b : List UInt8} {b_m : Nat} {vm1 : Value} {vm2 : Value} {vsm1 : List Value} {vl1 : Value} {vb1 : Value} {r : (Int × Int × (List (List UInt8)))} (h : seg_Scatter m l b = some r) :
  Ctr Try.prog 33 #[.pointer (some ⟨b_m, 0, none⟩), vl1, vb1] [(cellsR b_m 76 [vm1, vm2]), (rowsX u8S true vm2 vsm1 m.b none)] [Fact.sl RegionS vm1 m.l, Fact.sl SegS vl1 l, Fact.sl u8S vb1 b]
   (fun rv own shr => rv = .tuple #[vI r.1, vI r.2.1] ∧ own = [(cellsR b_m 76 [vm1, vm2]), (rowsX u8S true vm2 vsm1 r.2.2 none)] ∧ shr = []) := by
 unfold seg_Scatter at h
 refine Ctr.mk (args := [.pointer (some ⟨b_m, 0, none⟩), vl1, vb1]) Try.func33 rfl rfl (fun R0 w0 B => ?_)
 refine Tk_seq (Tk_region (Tops_step rfl (OpT_assign rfl rfl rfl rfl) ?_))
 refine Tops_step rfl (OpT_assign rfl rfl rfl rfl) ?_
 refine Tops_nil (Tk_wkS (fr' := [(0, some (.pointer (some ⟨b_m, 0, none⟩))), (1, some (vl1)), (2, some (vb1))]) (own' := [some (cellsR b_m 76 [vm1, vm2]), some (rowsX u8S true vm2 vsm1 m.b none)]) (shr' := [Fact.sl RegionS vm1 m.l, Fact.sl SegS vl1 l, Fact.sl u8S vb1 b]) [0, 1, 2] [0, 1] [0, 1, 2] rfl rfl rfl rfl ?_)
 refine Tk_seq (Tk_seq (Tk_region (Tops_step rfl (OpT_move rfl rfl rfl rfl) ?_)))
 refine Tops_step rfl (OpT_move rfl rfl rfl rfl) ?_
 obtain ⟨in1, hx1, h⟩ := ob_e h
 refine Tops_exP rfl (OpT_callP [2, 3] (w_seg_In hx1) [0, 1] [0, 1] rfl rfl rfl rfl rfl callee32 rfl rfl rfl rfl rfl) ?_
 rintro _ ⟨_, _, _, ⟨rfl, rfl, rfl⟩, rfl⟩
 refine Tops_step rfl (OpT_assign rfl rfl rfl rfl) ?_
 refine Tops_nil (Tk_wkS (fr' := [(0, some (.pointer (some ⟨b_m, 0, none⟩))), (1, some (vl1)), (2, some (vb1)), (8, some (vI in1))]) (own' := [some (cellsR b_m 76 [vm1, vm2]), some (rowsX u8S true vm2 vsm1 m.b none)]) (shr' := [Fact.sl RegionS vm1 m.l, Fact.sl SegS vl1 l, Fact.sl u8S vb1 b]) [0, 1, 2, 8] [0, 1] [0, 1, 2] rfl rfl rfl rfl ?_)
 refine Tk_seq (Tk_region (Tops_step rfl (OpT_move rfl rfl rfl rfl) ?_))
 refine Tops_step rfl (OpT_bin rfl rfl rfl rfl rfl (bin_neq_i (a := in1) (b := (0 : Int)))) ?_
 refine Tops_nil (Tk_wkS (fr' := [(0, some (.pointer (some ⟨b_m, 0, none⟩))), (1, some (vl1)), (2, some (vb1)), (8, some (vI in1)), (18, some (vB (in1 != (0 : Int))))]) (own' := [some (cellsR b_m 76 [vm1, vm2]), some (rowsX u8S true vm2 vsm1 m.b none)]) (shr' := [Fact.sl RegionS vm1 m.l, Fact.sl SegS vl1 l, Fact.sl u8S vb1 b]) [0, 1, 2, 8, 18] [0, 1] [0, 1, 2] rfl rfl rfl rfl ?_)
 rcases Bool.eq_false_or_eq_true (in1 != (0 : Int)) with hg1 | hg1
 ·replace h := br_t hg1 h
  refine Tk_condT (congrArg (fun b => some (Value.bool b)) hg1) ?_
  refine Tk_seq (Tk_region (Tops_step rfl (OpT_move rfl rfl rfl rfl) ?_))
  refine Tops_step rfl (OpT_assign rfl rfl rfl rfl) ?_
  refine Tops_step rfl (OpT_assign rfl rfl rfl rfl) ?_
  refine Tops_nil (Tk_wkS (fr' := [(6, some (vI (0 : Int))), (7, some (vI in1))]) (own' := [some (cellsR b_m 76 [vm1, vm2]), some (rowsX u8S true vm2 vsm1 m.b none)]) (shr' := [Fact.sl RegionS vm1 m.l]) [6, 7] [0, 1] [0] rfl rfl rfl rfl ?_)
  obtain rfl := Option.some.inj h
  exact Tk_retV rfl rfl (resA (vs := [vI (0 : Int), vI in1]) rfl ⟨rfl, rfl, trivial⟩) [0, 1] [] rfl rfl rfl ⟨rfl, rfl, rfl⟩
 ·replace h := br_f hg1 h
  refine Tk_condF (congrArg (fun b => some (Value.bool b)) hg1) ?_
  refine Tk_skip (Tk_seq (Tk_region (Tops_step rfl (OpT_move rfl rfl rfl rfl) ?_)))
  obtain ⟨part1, hx2, h⟩ := ob_e h
  refine Tops_exP rfl (OpT_call (w_seg_Part hx2) [] [1] rfl rfl rfl rfl rfl callee36 rfl rfl rfl rfl) ?_
  rintro _ ⟨v1, _, _, ⟨_, rfl, rfl, rfl⟩, rfl⟩
  refine Tops_ex rfl (OpT_alloc rfl rfl rfl tyZ91) fun b1 => ?_
  refine Tops_step rfl (OpT_storeV (cs' := [v1]) rfl rfl rfl rfl tyF91 (i := 3) rfl (is_row (i := 2) rfl) rfl rfl) ?_
  refine Tops_nil (Tk_wkS (fr' := [(0, some (.pointer (some ⟨b_m, 0, none⟩))), (2, some (vb1)), (9, some (.pointer (some ⟨b1, 0, none⟩)))]) (own' := [some (cellsR b_m 76 [vm1, vm2]), some (rowsX u8S true vm2 vsm1 m.b none), some (rowS SegS v1 part1), some (cellsR b1 91 [v1])]) (shr' := [Fact.sl RegionS vm1 m.l, Fact.sl u8S vb1 b]) [0, 2, 9] [0, 1, 2, 3] [0, 2] rfl rfl rfl rfl ?_)
  refine Tk_seq (Tk_region (Tops_step rfl (OpT_assign rfl rfl rfl rfl) ?_))
  refine Tops_nil (Tk_seq (Tk_seq (Tk_region (Tops_step rfl (OpT_move rfl rfl rfl rfl) ?_))))
  refine Tops_step rfl (OpT_lenS rfl rfl rfl rfl Try.underlying30 (i := 1) rfl) ?_
  refine Tops_step rfl (OpT_cnv rfl rfl rfl rfl (cnv_i_u64 (n := len b) Try.underlying3 Try.underlying38)) ?_
  refine Tops_retire (i := 2) rfl ?_
  obtain ⟨eat1, hx3, h⟩ := ob_e h
  refine Tops_exP rfl (OpT_callP [0, 1, 2, 4, 5] (w_seg_row_eat hx3) [3] [2] rfl rfl rfl rfl rfl callee45 rfl rfl rfl rfl rfl) ?_
  rintro _ ⟨v2, _, _, ⟨_, v3, rfl, rfl, rfl⟩, rfl⟩
  refine Tops_step rfl (OpT_lenO rfl rfl rfl rfl Try.underlying49 (i := 4) rfl) ?_
  refine Tops_step rfl (OpT_move rfl rfl rfl rfl) ?_
  refine Tops_nil (Tk_wkS (fr' := [(0, some (.pointer (some ⟨b_m, 0, none⟩))), (2, some (vb1)), (10, some (vI (0 : Int))), (25, some (v2)), (26, some (vI (len eat1.1))), (27, some (vI (0 : Int)))]) (own' := [some (cellsR b_m 76 [vm1, vm2]), some (rowsX u8S true vm2 vsm1 m.b none), some (rowS SegS v2 eat1.1)]) (shr' := [Fact.sl RegionS vm1 m.l, Fact.sl u8S vb1 b]) [0, 2, 10, 25, 26, 27] [0, 1, 4] [0, 1] rfl rfl rfl rfl ?_)
  refine Tk_block (Tk_loopS (σ := (List (List UInt8)) × Int × (List Seg) × Int × Value) [0, 2, 10, 25, 26, 27] [0, 1, 2] [0, 1] (fun s => ⟨[(0, some (.pointer (some ⟨b_m, 0, none⟩))), (2, some (vb1)), (10, some (vI s.2.1)), (25, some (s.2.2.2.2)), (26, some (vI (len eat1.1))), (27, some (vI s.2.2.2.1))], [some (cellsR b_m 76 [vm1, vm2]), some (rowsX u8S true vm2 vsm1 s.1 none), some (rowS SegS s.2.2.2.2 s.2.2.1)], [Fact.sl RegionS vm1 m.l, Fact.sl u8S vb1 b]⟩) (fun nf1 s => seg_ScatterL1 m b eat1 nf1 s.1 s.2.1 s.2.2.1 s.2.2.2.1 = some r) fuel (m.b, (0 : Int), eat1.1, (0 : Int), v2) h rfl rfl rfl rfl rfl (fun s h => by cases h) ?_)
  rintro nf1 ⟨rows1, n1, l1, x1, v4⟩ h
  replace h : seg_ScatterL1B m b eat1 (seg_ScatterL1 m b eat1 nf1) rows1 n1 l1 x1 = some r := h
  unfold seg_ScatterL1B at h
  refine Tk_seq (Tk_region (Tops_step rfl (OpT_bin rfl rfl rfl rfl rfl (bin_lss_i (a := x1) (b := len eat1.1))) ?_))
  refine Tops_nil (Tk_seq ?_)
  rcases Bool.eq_false_or_eq_true (decide (x1 < (len eat1.1))) with hg2 | hg2
  ·replace h := br_t hg2 h
   refine Tk_condT (congrArg (fun b => some (Value.bool b)) hg2) ?_
   refine Tk_skip (Tk_seq (Tk_block (Tk_seq (Tk_region ?_))))
   obtain ⟨s1, hx4, h⟩ := ob_e h
   refine Tops_step rfl (OpT_idxO rfl rfl rfl rfl rfl slF49 (i := 2) rfl hx4) ?_
   refine Tops_step rfl (OpT_loadOA (S := SegS) (vs := [vU64 s1.At, vU32 s1.Len, vB s1.Write]) rfl rfl rfl rfl rfl tyF81 (i := 2) rfl hx4 rfl) ?_
   refine Tops_ex rfl (OpT_alloc rfl rfl rfl tyZ81) fun b2 => ?_
   refine Tops_step rfl (OpT_storeC (cs' := [vU64 s1.At, vU32 s1.Len, vB s1.Write]) rfl rfl rfl rfl tyF81 (i := 3) rfl rfl rfl (one_of rfl) rfl) ?_
   refine Tops_nil (Tk_wkS (fr' := [(0, some (.pointer (some ⟨b_m, 0, none⟩))), (2, some (vb1)), (10, some (vI n1)), (25, some (v4)), (26, some (vI (len eat1.1))), (27, some (vI x1)), (12, some (.pointer (some ⟨b2, 0, none⟩)))]) (own' := [some (cellsR b_m 76 [vm1, vm2]), some (rowsX u8S true vm2 vsm1 rows1 none), some (rowS SegS v4 l1), some (cellsR b2 81 [vU64 s1.At, vU32 s1.Len, vB s1.Write])]) (shr' := [Fact.sl RegionS vm1 m.l, Fact.sl u8S vb1 b]) [0, 2, 10, 25, 26, 27, 12] [0, 1, 2, 3] [0, 1] rfl rfl rfl rfl ?_)
   refine Tk_seq (Tk_region (Tops_step rfl (OpT_fieldC rfl rfl rfl rfl fldF81x1) ?_))
   refine Tops_step rfl (OpT_loadC rfl rfl rfl rfl tyF50 (i := 3) rfl rfl) ?_
   refine Tops_step rfl (OpT_cnv rfl rfl rfl rfl (cnv_u32_i (n := s1.Len) Try.underlying50 Try.underlying3)) ?_
   refine Tops_step rfl (OpT_assign rfl rfl rfl rfl) ?_
   refine Tops_nil (Tk_wkS (fr' := [(0, some (.pointer (some ⟨b_m, 0, none⟩))), (2, some (vb1)), (10, some (vI n1)), (25, some (v4)), (26, some (vI (len eat1.1))), (27, some (vI x1)), (12, some (.pointer (some ⟨b2, 0, none⟩))), (13, some (vI (i32 s1.Len)))]) (own' := [some (cellsR b_m 76 [vm1, vm2]), some (rowsX u8S true vm2 vsm1 rows1 none), some (rowS SegS v4 l1), some (cellsR b2 81 [vU64 s1.At, vU32 s1.Len, vB s1.Write])]) (shr' := [Fact.sl RegionS vm1 m.l, Fact.sl u8S vb1 b]) [0, 2, 10, 25, 26, 27, 12, 13] [0, 1, 2, 3] [0, 1] rfl rfl rfl rfl ?_)
   refine Tk_seq (Tk_drawT (by kernel_rfl) ?_)
   refine TA_tb [0, 0, 2, 0, 0, 0, 0, 96, 248, 511] (by kernel_rfl) fun htb => ?_
   obtain ⟨hc1, h⟩ := chk_e h
   refine TA_seg (lo := 0) (hi := 9) htb rfl rfl (by kernel_rfl) (fun c L a w => ∃ (v5 : Value), Sat c ⟨[(0, some (.pointer (some ⟨b_m, 0, none⟩))), (2, some (vb1)), (10, some (vI n1)), (25, some (v4)), (26, some (vI (len eat1.1))), (27, some (vI x1)), (12, some (.pointer (some ⟨b2, 0, none⟩))), (13, some (vI (i32 s1.Len))), (34, bif L 0 then some (.pointer (some ⟨b_m, 0, none⟩)) else none), (35, bif L 1 then some (.pointer (some ⟨b2, 0, none⟩)) else none), (36, bif L 2 then some (vU64 s1.At) else none), (37, bif L 3 then some (vb1) else none), (38, bif L 4 then some (vI n1) else none), (39, bif L 5 then some (vI n1) else none), (40, bif L 6 then some (vI (i32 s1.Len)) else none), (41, bif L 7 then some (vI (wi (n1 + (i32 s1.Len)))) else none), (42, bif L 8 then some (v5) else none)], [(some (cellsR b_m 76 [vm1, vm2]) : Option Res), (some (rowsX u8S true vm2 vsm1 rows1 none) : Option Res), (some (rowS SegS v4 l1) : Option Res), (some (cellsR b2 81 [vU64 s1.At, vU32 s1.Len, vB s1.Write]) : Option Res)], [Fact.sl RegionS vm1 m.l, Fact.sl u8S vb1 b, (bif L 8 then Fact.sl u8S v5 (sub b n1 (wi (n1 + (i32 s1.Len)))) else Fact.tt)]⟩ a w) [([], []), ([], [2]), ([1], []), ([], [8]), ([], [8]), ([], [7, 8]), ([], [7, 8]), ([5, 6], [8]), ([3, 4, 5, 6, 7], [])] rfl (by kernel_rfl) ?_ (steps_cons ?_ (steps_cons ?_ (steps_cons ?_ (steps_cons ?_ (steps_cons ?_ (steps_cons ?_ (steps_cons ?_ (steps_cons ?_ (steps_cons ?_ (steps_nil)))))))))) ?_
   ·intro a w hs
    exact ⟨undef, hs.startF [34, 35, 36, 37, 38, 39, 40, 41, 42] [0, 1, 2, 3] [0, 1, 2] rfl rfl rfl rfl⟩
   ·intro L a w hv K Q hK
    obtain ⟨v5, hs⟩ := hv
    refine wpOp_go rfl rfl hs (OpT_move rfl rfl rfl rfl) ?_
    rintro _ rfl a' w' hs'
    exact hK a' w' ⟨v5, hs'.putF (i := 8) rfl [0, 1, 2, 3] [0, 1, 2] rfl rfl rfl rfl⟩
   ·intro L a w hv K Q hK
    obtain ⟨v5, hs⟩ := hv
    refine wpOp_go rfl rfl hs (OpT_fieldC rfl rfl rfl rfl fldF81x0) ?_
    rintro _ rfl a' w' hs'
    exact hK a' w' ⟨v5, hs'.putF (i := 9) rfl [0, 1, 2, 3] [0, 1, 2] rfl rfl rfl rfl⟩
   ·intro L a w hv K Q hK
    obtain ⟨v5, hs⟩ := hv
    refine wpOp_go rfl rfl hs (OpT_loadC rfl rfl rfl rfl tyF38 (i := 3) rfl rfl) ?_
    rintro _ rfl a' w' hs'
    exact hK a' w' ⟨v5, hs'.putF (i := 10) rfl [0, 1, 2, 3] [0, 1, 2] rfl rfl rfl rfl⟩
   ·intro L a w hv K Q hK
    obtain ⟨v5, hs⟩ := hv
    refine wpOp_go rfl rfl hs (OpT_move rfl rfl rfl rfl) ?_
    rintro _ rfl a' w' hs'
    exact hK a' w' ⟨v5, hs'.putF (i := 11) rfl [0, 1, 2, 3] [0, 1, 2] rfl rfl rfl rfl⟩
   ·intro L a w hv K Q hK
    obtain ⟨v5, hs⟩ := hv
    refine wpOp_go rfl rfl hs (OpT_move rfl rfl rfl rfl) ?_
    rintro _ rfl a' w' hs'
    exact hK a' w' ⟨v5, hs'.putF (i := 12) rfl [0, 1, 2, 3] [0, 1, 2] rfl rfl rfl rfl⟩
   ·intro L a w hv K Q hK
    obtain ⟨v5, hs⟩ := hv
    refine wpOp_go rfl rfl hs (OpT_move rfl rfl rfl rfl) ?_
    rintro _ rfl a' w' hs'
    exact hK a' w' ⟨v5, hs'.putF (i := 13) rfl [0, 1, 2, 3] [0, 1, 2] rfl rfl rfl rfl⟩
   ·intro L a w hv K Q hK
    obtain ⟨v5, hs⟩ := hv
    refine wpOp_go rfl rfl hs (OpT_move rfl rfl rfl rfl) ?_
    rintro _ rfl a' w' hs'
    exact hK a' w' ⟨v5, hs'.putF (i := 14) rfl [0, 1, 2, 3] [0, 1, 2] rfl rfl rfl rfl⟩
   ·intro L a w hv K Q hK
    obtain ⟨v5, hs⟩ := hv
    refine wpOp_go rfl rfl hs (OpT_bin rfl rfl rfl rfl rfl (bin_add_i (a := n1) (b := i32 s1.Len))) ?_
    rintro _ rfl a' w' hs'
    exact hK a' w' ⟨v5, hs'.putF (i := 15) rfl [0, 1, 2, 3] [0, 1, 2] rfl rfl rfl rfl⟩
   ·intro L a w hv K Q hK
    obtain ⟨v5, hs⟩ := hv
    refine wpOp_go rfl rfl hs (OpT_sliceLH (l := n1) (m := wi (n1 + (i32 s1.Len))) rfl rfl rfl rfl rfl rfl slF30 (i := 1) rfl hc1) ?_
    rintro _ ⟨v5', rfl⟩ a' w' hs'
    exact hK a' w' ⟨v5', hs'.putF (i := 16) rfl [0, 1, 2, 3] [0, 1, 3] rfl rfl rfl rfl⟩
   ·intro L a w hL hv
    rw [allTrue hL] at hv
    obtain ⟨v5, hs⟩ := hv
    refine (show TA _ _ _ 9 ⟨[(0, some (.pointer (some ⟨b_m, 0, none⟩))), (2, some (vb1)), (10, some (vI n1)), (25, some (v4)), (26, some (vI (len eat1.1))), (27, some (vI x1)), (13, some (vI (i32 s1.Len))), (34, some (.pointer (some ⟨b_m, 0, none⟩))), (36, some (vU64 s1.At)), (42, some (v5))], [some (cellsR b_m 76 [vm1, vm2]), some (rowsX u8S true vm2 vsm1 rows1 none), some (rowS SegS v4 l1)], [Fact.sl RegionS vm1 m.l, Fact.sl u8S vb1 b, Fact.sl u8S v5 (sub b n1 (wi (n1 + (i32 s1.Len))))]⟩ from ?_) a w (hs.wkS [0, 2, 10, 25, 26, 27, 13, 34, 36, 42] [0, 1, 2] [0, 1, 2] rfl rfl rfl rfl)
    clear hs hL
    obtain ⟨write1, hx5, h⟩ := ob_e h
    refine TA_exP htb (by kernel_rfl) rfl rfl (OpT_callP [3, 4, 2] (w_gmem_Mem_Write hx5) [0, 1] [0, 2] rfl rfl rfl rfl rfl callee14 rfl rfl rfl rfl rfl) ?_
    rintro _ ⟨_, _, _, ⟨rfl, rfl, rfl⟩, rfl⟩
    refine TA_end rfl ?_
    refine Tk_wkS (fr' := [(0, some (.pointer (some ⟨b_m, 0, none⟩))), (2, some (vb1)), (10, some (vI n1)), (25, some (v4)), (26, some (vI (len eat1.1))), (27, some (vI x1)), (13, some (vI (i32 s1.Len)))]) (own' := [some (cellsR b_m 76 [vm1, vm2]), some (rowsX u8S true vm2 vsm1 write1.2 none), some (rowS SegS v4 l1)]) (shr' := [Fact.sl RegionS vm1 m.l, Fact.sl u8S vb1 b]) [0, 2, 10, 25, 26, 27, 13] [0, 1, 2] [0, 1] rfl rfl rfl rfl ?_
    refine Tk_region (Tops_step rfl (OpT_move rfl rfl rfl rfl) ?_)
    refine Tops_step rfl (OpT_move rfl rfl rfl rfl) ?_
    refine Tops_step rfl (OpT_bin rfl rfl rfl rfl rfl (bin_add_i (a := n1) (b := i32 s1.Len))) ?_
    refine Tops_step rfl (OpT_assign rfl rfl rfl rfl) ?_
    refine Tops_nil (Tk_wkS (fr' := [(0, some (.pointer (some ⟨b_m, 0, none⟩))), (2, some (vb1)), (10, some (vI (wi (n1 + (i32 s1.Len))))), (25, some (v4)), (26, some (vI (len eat1.1))), (27, some (vI x1))]) (own' := [some (cellsR b_m 76 [vm1, vm2]), some (rowsX u8S true vm2 vsm1 write1.2 none), some (rowS SegS v4 l1)]) (shr' := [Fact.sl RegionS vm1 m.l, Fact.sl u8S vb1 b]) [0, 2, 10, 25, 26, 27] [0, 1, 2] [0, 1] rfl rfl rfl rfl ?_)
    refine Tk_blk (Tk_region (Tops_step rfl (OpT_bin rfl rfl rfl rfl rfl (bin_add_i (a := x1) (b := (1 : Int)))) ?_))
    refine Tops_step rfl (OpT_move rfl rfl rfl rfl) ?_
    refine Tops_nil (Tk_wkS (fr' := [(0, some (.pointer (some ⟨b_m, 0, none⟩))), (2, some (vb1)), (10, some (vI (wi (n1 + (i32 s1.Len))))), (25, some (v4)), (26, some (vI (len eat1.1))), (27, some (vI (wi (x1 + (1 : Int)))))]) (own' := [some (cellsR b_m 76 [vm1, vm2]), some (rowsX u8S true vm2 vsm1 write1.2 none), some (rowS SegS v4 l1)]) (shr' := [Fact.sl RegionS vm1 m.l, Fact.sl u8S vb1 b]) [0, 2, 10, 25, 26, 27] [0, 1, 2] [0, 1] rfl rfl rfl rfl ?_)
    exact Tk_backS (write1.2, wi (n1 + (i32 s1.Len)), l1, wi (x1 + (1 : Int)), v4) h [0, 2, 10, 25, 26, 27] [0, 1, 2] [0, 1] rfl rfl rfl rfl rfl
  ·replace h := br_f hg2 h
   refine Tk_condF (congrArg (fun b => some (Value.bool b)) hg2) ?_
   refine Tk_exit _ rfl ?_
   refine Tk_seq (Tk_region (Tops_step rfl (OpT_move rfl rfl rfl rfl) ?_))
   refine Tops_step rfl (OpT_assign rfl rfl rfl rfl) ?_
   refine Tops_step rfl (OpT_assign rfl rfl rfl rfl) ?_
   refine Tops_nil (Tk_wkS (fr' := [(6, some (vI n1)), (7, some (vI (0 : Int)))]) (own' := [some (cellsR b_m 76 [vm1, vm2]), some (rowsX u8S true vm2 vsm1 rows1 none)]) (shr' := [Fact.sl RegionS vm1 m.l]) [6, 7] [0, 1] [0] rfl rfl rfl rfl ?_)
   obtain rfl := Option.some.inj h
   exact Tk_retV rfl rfl (resA (vs := [vI n1, vI (0 : Int)]) rfl ⟨rfl, rfl, trivial⟩) [0, 1] [] rfl rfl rfl ⟨rfl, rfl, rfl⟩

set_option maxRecDepth 100000 in
set_option maxHeartbeats 4000000 in
theorem w_cons_Give {m : gmem_Mem} {sp1 : Stream} {bufs : List (List Seg)} {b_m : Nat} {vm1 : Value} {vm2 : Value} {vsm1 : List Value} {vsp11 : Value} {vbufs1 : Value} {r : (Stream × (List UInt32) × Int × (List (List UInt8)))} (h : cons_Give m sp1 bufs = some r) :
  Ctr Try.prog 15 #[.pointer (some ⟨b_m, 0, none⟩), .agg #[vsp11], vbufs1] [(cellsR b_m 76 [vm1, vm2]), (rowsX u8S true vm2 vsm1 m.b none)] [Fact.sl RegionS vm1 m.l, Fact.sl u8S vsp11 sp1.Wait, Fact.sl (Shape.slice SegS) vbufs1 bufs]
   (fun rv own shr => ∃ (w1 : Value), ∃ (w2 : Value), rv = .tuple #[.agg #[w1], w2, vI r.2.2.1] ∧ own = [(cellsR b_m 76 [vm1, vm2]), (rowsX u8S true vm2 vsm1 r.2.2.2 none), (rowS u8S w1 r.1.Wait)] ∧ shr = [Fact.sl u32S w2 r.2.1]) := by
 unfold cons_Give at h
 refine Ctr.mk (args := [.pointer (some ⟨b_m, 0, none⟩), .agg #[vsp11], vbufs1]) Try.func15 rfl rfl (fun R0 w0 B => ?_)
 refine Tk_seq (Tk_region (Tops_ex rfl (OpT_box rfl rfl rfl rfl) fun b1 => ?_))
 refine Tops_ex rfl (OpT_alloc rfl rfl rfl tyZ40) fun b2 => ?_
 refine Tops_step rfl (OpT_assign rfl rfl rfl rfl) ?_
 refine Tops_step rfl (OpT_assign rfl rfl rfl rfl) ?_
 refine Tops_nil (Tk_wkS (fr' := [(0, some (.pointer (some ⟨b_m, 0, none⟩))), (2, some (vbufs1)), (4, some (.pointer (some ⟨b1, 0, none⟩))), (6, some (.pointer (some ⟨b2, 0, none⟩)))]) (own' := [some (cellsR b_m 76 [vm1, vm2]), some (rowsX u8S true vm2 vsm1 m.b none), some (cellsR b1 40 [vsp11]), some (cellsR b2 40 [.slice none 0 0])]) (shr' := [Fact.sl RegionS vm1 m.l, Fact.sl u8S vsp11 sp1.Wait, Fact.sl (Shape.slice SegS) vbufs1 bufs]) [0, 2, 4, 6] [0, 1, 2, 3] [0, 1, 2] rfl rfl rfl rfl ?_)
 refine Tk_seq (Tk_seq (Tk_region (Tops_step rfl (OpT_move rfl rfl rfl rfl) ?_)))
 refine Tops_step rfl (OpT_ptrNil rfl rfl rfl (.inl rfl) rfl rfl ptrF32) ?_
 refine Tops_nil (Tk_wkS (fr' := [(0, some (.pointer (some ⟨b_m, 0, none⟩))), (2, some (vbufs1)), (4, some (.pointer (some ⟨b1, 0, none⟩))), (6, some (.pointer (some ⟨b2, 0, none⟩))), (22, some (vB false))]) (own' := [some (cellsR b_m 76 [vm1, vm2]), some (rowsX u8S true vm2 vsm1 m.b none), some (cellsR b1 40 [vsp11]), some (cellsR b2 40 [.slice none 0 0])]) (shr' := [Fact.sl RegionS vm1 m.l, Fact.sl u8S vsp11 sp1.Wait, Fact.sl (Shape.slice SegS) vbufs1 bufs]) [0, 2, 4, 6, 22] [0, 1, 2, 3] [0, 1, 2] rfl rfl rfl rfl ?_)
 refine Tk_condF rfl ?_
 refine Tk_skip (Tk_seq (Tk_region (Tops_step rfl (OpT_fieldC rfl rfl rfl rfl fldF40x0) ?_)))
 refine Tops_step rfl (OpT_loadC rfl rfl rfl rfl tyF30 (i := 2) rfl rfl) ?_
 refine Tops_step rfl (OpT_lenS rfl rfl rfl rfl Try.underlying30 (i := 1) rfl) ?_
 refine Tops_step rfl (OpT_cnv rfl rfl rfl rfl (cnv_i_u64 (n := len sp1.Wait) Try.underlying3 Try.underlying38)) ?_
 refine Tops_step rfl (OpT_assign rfl rfl rfl rfl) ?_
 refine Tops_nil (Tk_wkS (fr' := [(0, some (.pointer (some ⟨b_m, 0, none⟩))), (2, some (vbufs1)), (4, some (.pointer (some ⟨b1, 0, none⟩))), (6, some (.pointer (some ⟨b2, 0, none⟩))), (9, some (vU64 (u64 (len sp1.Wait))))]) (own' := [some (cellsR b_m 76 [vm1, vm2]), some (rowsX u8S true vm2 vsm1 m.b none), some (cellsR b1 40 [vsp11]), some (cellsR b2 40 [.slice none 0 0])]) (shr' := [Fact.sl RegionS vm1 m.l, Fact.sl u8S vsp11 sp1.Wait, Fact.sl (Shape.slice SegS) vbufs1 bufs]) [0, 2, 4, 6, 9] [0, 1, 2, 3] [0, 1, 2] rfl rfl rfl rfl ?_)
 refine Tk_seq (Tk_region (Tops_step rfl (OpT_assign rfl rfl rfl rfl) ?_))
 refine Tops_nil (Tk_seq (Tk_region (Tops_step rfl (OpT_assign rfl rfl rfl rfl) ?_)))
 refine Tops_nil (Tk_seq (Tk_seq (Tk_region (Tops_step rfl (OpT_move rfl rfl rfl rfl) ?_))))
 refine Tops_step rfl (OpT_lenS rfl rfl rfl rfl Try.underlying45 (i := 2) rfl) ?_
 refine Tops_step rfl (OpT_move rfl rfl rfl rfl) ?_
 refine Tops_nil (Tk_join (α := (List UInt8) × (List UInt8) × (List UInt32) × Int × Value × Value × Value) (fun s => ⟨[(0, some (.pointer (some ⟨b_m, 0, none⟩))), (2, some (vbufs1)), (4, some (.pointer (some ⟨b1, 0, none⟩))), (6, some (.pointer (some ⟨b2, 0, none⟩))), (10, some (s.2.2.2.2.2.2)), (11, some (vI s.2.2.2.1))], [some (cellsR b_m 76 [vm1, vm2]), some (rowsX u8S true vm2 vsm1 m.b none), some (cellsR b1 40 [s.2.2.2.2.1]), some (cellsR b2 40 [s.2.2.2.2.2.1]), some (rowS u32S s.2.2.2.2.2.2 s.2.2.1)], [Fact.sl RegionS vm1 m.l, Fact.sl (Shape.slice SegS) vbufs1 bufs, Fact.sl u8S s.2.2.2.2.1 s.1, Fact.sl u8S s.2.2.2.2.2.1 s.2.1]⟩) (fun s => cons_GiveJ1 m bufs s.1 s.2.1 s.2.2.1 s.2.2.2.1 = some r) ?_ ?_)
 ·rintro ⟨Wait1, Wait2, out1, used1, v1, v2, v3⟩ h
  replace h : cons_GiveJ1 m bufs Wait1 Wait2 out1 used1 = some r := h
  unfold cons_GiveJ1 at h
  refine Tk_seq (Tk_region (Tops_step rfl (OpT_move rfl rfl rfl rfl) ?_))
  refine Tops_step rfl (OpT_move rfl rfl rfl rfl) ?_
  refine Tops_step rfl (OpT_move rfl rfl rfl rfl) ?_
  refine Tops_retire (i := 4) rfl ?_
  obtain ⟨hc1, h⟩ := chk_e h
  refine Tops_ex rfl (OpT_sliceHM (m := used1) (q := used1) rfl rfl rfl rfl rfl rfl slF41 (i := 4) rfl hc1) fun v4 => ?_
  refine Tops_step rfl (OpT_assign rfl rfl rfl rfl) ?_
  refine Tops_nil (Tk_wkS (fr' := [(0, some (.pointer (some ⟨b_m, 0, none⟩))), (2, some (vbufs1)), (4, some (.pointer (some ⟨b1, 0, none⟩))), (6, some (.pointer (some ⟨b2, 0, none⟩))), (10, some (v4))]) (own' := [some (cellsR b_m 76 [vm1, vm2]), some (rowsX u8S true vm2 vsm1 m.b none), some (cellsR b1 40 [v1]), some (cellsR b2 40 [v2])]) (shr' := [Fact.sl RegionS vm1 m.l, Fact.sl (Shape.slice SegS) vbufs1 bufs, Fact.sl u8S v1 Wait1, Fact.sl u8S v2 Wait2, Fact.sl u32S v4 (sub out1 (0 : Int) used1)]) [0, 2, 4, 6, 10] [0, 1, 2, 3] [0, 1, 2, 3, 5] rfl rfl rfl rfl ?_)
  refine Tk_seq (Tk_region (Tops_ex rfl (OpT_buildSlice (S := u8S) (xs := ([] : List UInt8)) (css := []) (cs := []) (e := 5) rfl rfl rfl rfl (bldF slF30 (by decide) (by kernel_rfl)) rfl rfl rfl rfl (rel_plainD (S := u8S) (xs := ([] : List UInt8)) (css := []) rfl rfl)) fun v5 => ?_))
  refine Tops_step rfl (OpT_fieldC rfl rfl rfl rfl fldF40x0) ?_
  refine Tops_step rfl (OpT_loadC rfl rfl rfl rfl tyF30 (i := 2) rfl rfl) ?_
  obtain ⟨hc2, h⟩ := chk_e h
  refine Tops_ex rfl (OpT_append rfl rfl rfl rfl rfl slF30 (i := 4) (j := 2) rfl rfl hc2) fun v6 => ?_
  refine Tops_step rfl (OpT_assign rfl rfl rfl rfl) ?_
  refine Tops_nil (Tk_wkS (fr' := [(0, some (.pointer (some ⟨b_m, 0, none⟩))), (2, some (vbufs1)), (6, some (.pointer (some ⟨b2, 0, none⟩))), (10, some (v4)), (18, some (v6))]) (own' := [some (cellsR b_m 76 [vm1, vm2]), some (rowsX u8S true vm2 vsm1 m.b none), some (cellsR b2 40 [v2]), some (rowS u8S v6 Wait1)]) (shr' := [Fact.sl RegionS vm1 m.l, Fact.sl (Shape.slice SegS) vbufs1 bufs, Fact.sl u8S v2 Wait2, Fact.sl u32S v4 (sub out1 (0 : Int) used1)]) [0, 2, 6, 10, 18] [0, 1, 3, 4] [0, 1, 3, 4] rfl rfl rfl rfl ?_)
  refine Tk_seq (Tk_seq (Tk_region (Tops_step rfl (OpT_move rfl rfl rfl rfl) ?_)))
  refine Tops_step rfl (OpT_lenS rfl rfl rfl rfl Try.underlying41 (i := 3) rfl) ?_
  refine Tops_step rfl (OpT_move rfl rfl rfl rfl) ?_
  refine Tops_nil (Tk_block (Tk_retire (i := 3) rfl ?_))
  refine Tk_loopS (σ := (List (List UInt8)) × (List UInt8) × (List UInt8) × Int × Value × Value) [0, 2, 6, 10, 18, 73, 74, 75] [0, 1, 2] [0, 1, 2, 3, 4] (fun s => ⟨[(0, some (.pointer (some ⟨b_m, 0, none⟩))), (2, some (vbufs1)), (6, some (.pointer (some ⟨b2, 0, none⟩))), (10, some (v4)), (18, some (s.2.2.2.2.2)), (73, some (v4)), (74, some (vI (len (sub out1 (0 : Int) used1)))), (75, some (vI s.2.2.2.1))], [some (cellsR b_m 76 [vm1, vm2]), some (rowsX u8S true vm2 vsm1 s.1 none), some (cellsR b2 40 [s.2.2.2.2.1])], [Fact.sl RegionS vm1 m.l, Fact.sl (Shape.slice SegS) vbufs1 bufs, Fact.sl u8S s.2.2.2.2.1 s.2.1, Fact.sl u32S v4 (sub out1 (0 : Int) used1), Fact.sl u8S s.2.2.2.2.2 s.2.2.1]⟩) (fun nf2 s => cons_GiveL2 m bufs out1 used1 nf2 s.1 s.2.1 s.2.2.1 s.2.2.2.1 = some r) fuel (m.b, Wait2, Wait1, (0 : Int), v2, v6) h rfl rfl rfl rfl rfl (fun s h => by cases h) ?_
  rintro nf2 ⟨rows1, Wait3, rest1, x1, v7, v8⟩ h
  replace h : cons_GiveL2B m bufs out1 used1 (cons_GiveL2 m bufs out1 used1 nf2) rows1 Wait3 rest1 x1 = some r := h
  unfold cons_GiveL2B at h
  refine Tk_seq (Tk_region (Tops_step rfl (OpT_bin rfl rfl rfl rfl rfl (bin_lss_i (a := x1) (b := len (sub out1 (0 : Int) used1)))) ?_))
  refine Tops_nil (Tk_seq ?_)
  rcases Bool.eq_false_or_eq_true (decide (x1 < (len (sub out1 (0 : Int) used1)))) with hg1 | hg1
  ·replace h := br_t hg1 h
   refine Tk_condT (congrArg (fun b => some (Value.bool b)) hg1) ?_
   refine Tk_skip (Tk_seq (Tk_block (Tk_seq (Tk_region (Tops_step rfl (OpT_move rfl rfl rfl rfl) ?_)))))
   obtain ⟨y1, hx1, h⟩ := ob_e h
   refine Tops_ex rfl (OpT_idxS rfl rfl rfl rfl rfl slF41 (i := 3) rfl hx1) fun p1 => ?_
   refine Tops_step rfl (OpT_loadP rfl rfl rfl rfl tyF50 (i := 5) rfl rfl) ?_
   refine Tops_step rfl (OpT_assign rfl rfl rfl rfl) ?_
   refine Tops_step rfl (OpT_assign rfl rfl rfl rfl) ?_
   refine Tops_nil (Tk_wkS (fr' := [(0, some (.pointer (some ⟨b_m, 0, none⟩))), (2, some (vbufs1)), (6, some (.pointer (some ⟨b2, 0, none⟩))), (10, some (v4)), (18, some (v8)), (73, some (v4)), (74, some (vI (len (sub out1 (0 : Int) used1)))), (75, some (vI x1)), (19, some (vI x1)), (20, some (vU32 y1))]) (own' := [some (cellsR b_m 76 [vm1, vm2]), some (rowsX u8S true vm2 vsm1 rows1 none), some (cellsR b2 40 [v7])]) (shr' := [Fact.sl RegionS vm1 m.l, Fact.sl (Shape.slice SegS) vbufs1 bufs, Fact.sl u8S v7 Wait3, Fact.sl u32S v4 (sub out1 (0 : Int) used1), Fact.sl u8S v8 rest1]) [0, 2, 6, 10, 18, 73, 74, 75, 19, 20] [0, 1, 2] [0, 1, 2, 3, 4] rfl rfl rfl rfl ?_)
   refine Tk_seq (Tk_drawT (by kernel_rfl) ?_)
   refine TA_tb [0, 0, 0, 6, 14, 0, 0, 0, 224, 511] (by kernel_rfl) fun htb => ?_
   obtain ⟨y2, hx2, h⟩ := ob_e h
   obtain ⟨hc3, h⟩ := chk_e h
   refine TA_seg (lo := 0) (hi := 9) htb rfl rfl (by kernel_rfl) (fun c L a w => ∃ (p2 : Value), ∃ (v9 : Value), ∃ (v10 : Value), Sat c ⟨[(0, some (.pointer (some ⟨b_m, 0, none⟩))), (2, some (vbufs1)), (6, some (.pointer (some ⟨b2, 0, none⟩))), (10, some (v4)), (18, some (v8)), (73, some (v4)), (74, some (vI (len (sub out1 (0 : Int) used1)))), (75, some (vI x1)), (19, some (vI x1)), (20, some (vU32 y1)), (80, bif L 0 then some (.pointer (some ⟨b_m, 0, none⟩)) else none), (81, bif L 1 then some (vbufs1) else none), (82, bif L 2 then some (vI x1) else none), (83, bif L 3 then some (p2) else none), (84, bif L 4 then some (v9) else none), (85, bif L 5 then some (v8) else none), (86, bif L 6 then some (vU32 y1) else none), (87, bif L 7 then some (vU32 y1) else none), (88, bif L 8 then some (v10) else none)], [(some (cellsR b_m 76 [vm1, vm2]) : Option Res), (some (rowsX u8S true vm2 vsm1 rows1 none) : Option Res), (some (cellsR b2 40 [v7]) : Option Res)], [Fact.sl RegionS vm1 m.l, Fact.sl (Shape.slice SegS) vbufs1 bufs, Fact.sl u8S v7 Wait3, Fact.sl u32S v4 (sub out1 (0 : Int) used1), Fact.sl u8S v8 rest1, (bif L 3 then Fact.pt (Shape.slice SegS) p2 y2 else Fact.tt), (bif L 4 then Fact.sl SegS v9 y2 else Fact.tt), (bif L 8 then Fact.sl u8S v10 (sub rest1 (0 : Int) (y1.toNat : Int)) else Fact.tt)]⟩ a w) [([], []), ([], [3, 4]), ([], [3, 4]), ([1, 2], [4]), ([1, 2, 3], []), ([], [8]), ([], [8]), ([], [8]), ([5, 6, 7], [])] rfl (by kernel_rfl) ?_ (steps_cons ?_ (steps_cons ?_ (steps_cons ?_ (steps_cons ?_ (steps_cons ?_ (steps_cons ?_ (steps_cons ?_ (steps_cons ?_ (steps_cons ?_ (steps_nil)))))))))) ?_
   ·intro a w hs
    exact ⟨undef, undef, undef, hs.startF [80, 81, 82, 83, 84, 85, 86, 87, 88] [0, 1, 2] [0, 1, 2, 3, 4, 5, 6, 7] rfl rfl rfl rfl⟩
   ·intro L a w hv K Q hK
    obtain ⟨p2, v9, v10, hs⟩ := hv
    refine wpOp_go rfl rfl hs (OpT_move rfl rfl rfl rfl) ?_
    rintro _ rfl a' w' hs'
    exact hK a' w' ⟨p2, v9, v10, hs'.putF (i := 10) rfl [0, 1, 2] [0, 1, 2, 3, 4, 5, 6, 7] rfl rfl rfl rfl⟩
   ·intro L a w hv K Q hK
    obtain ⟨p2, v9, v10, hs⟩ := hv
    refine wpOp_go rfl rfl hs (OpT_move rfl rfl rfl rfl) ?_
    rintro _ rfl a' w' hs'
    exact hK a' w' ⟨p2, v9, v10, hs'.putF (i := 11) rfl [0, 1, 2] [0, 1, 2, 3, 4, 5, 6, 7] rfl rfl rfl rfl⟩
   ·intro L a w hv K Q hK
    obtain ⟨p2, v9, v10, hs⟩ := hv
    refine wpOp_go rfl rfl hs (OpT_move rfl rfl rfl rfl) ?_
    rintro _ rfl a' w' hs'
    exact hK a' w' ⟨p2, v9, v10, hs'.putF (i := 12) rfl [0, 1, 2] [0, 1, 2, 3, 4, 5, 6, 7] rfl rfl rfl rfl⟩
   ·intro L a w hv K Q hK
    obtain ⟨p2, v9, v10, hs⟩ := hv
    refine wpOp_go rfl rfl hs (OpT_idxS rfl rfl rfl rfl rfl slF45 (i := 1) rfl hx2) ?_
    rintro _ ⟨p2', rfl⟩ a' w' hs'
    exact hK a' w' ⟨p2', v9, v10, hs'.putF (i := 13) rfl [0, 1, 2] [0, 1, 2, 3, 4, 8, 6, 7] rfl rfl rfl rfl⟩
   ·intro L a w hv K Q hK
    obtain ⟨p2, v9, v10, hs⟩ := hv
    refine wpOp_go rfl rfl hs (OpT_loadPS rfl rfl rfl rfl tyF49 (i := 5) rfl) ?_
    rintro _ ⟨v9', rfl⟩ a' w' hs'
    exact hK a' w' ⟨p2, v9', v10, hs'.putF (i := 14) rfl [0, 1, 2] [0, 1, 2, 3, 4, 5, 8, 7] rfl rfl rfl rfl⟩
   ·intro L a w hv K Q hK
    obtain ⟨p2, v9, v10, hs⟩ := hv
    refine wpOp_go rfl rfl hs (OpT_move rfl rfl rfl rfl) ?_
    rintro _ rfl a' w' hs'
    exact hK a' w' ⟨p2, v9, v10, hs'.putF (i := 15) rfl [0, 1, 2] [0, 1, 2, 3, 4, 5, 6, 7] rfl rfl rfl rfl⟩
   ·intro L a w hv K Q hK
    obtain ⟨p2, v9, v10, hs⟩ := hv
    refine wpOp_go rfl rfl hs (OpT_move rfl rfl rfl rfl) ?_
    rintro _ rfl a' w' hs'
    exact hK a' w' ⟨p2, v9, v10, hs'.putF (i := 16) rfl [0, 1, 2] [0, 1, 2, 3, 4, 5, 6, 7] rfl rfl rfl rfl⟩
   ·intro L a w hv K Q hK
    obtain ⟨p2, v9, v10, hs⟩ := hv
    refine wpOp_go rfl rfl hs (OpT_move rfl rfl rfl rfl) ?_
    rintro _ rfl a' w' hs'
    exact hK a' w' ⟨p2, v9, v10, hs'.putF (i := 17) rfl [0, 1, 2] [0, 1, 2, 3, 4, 5, 6, 7] rfl rfl rfl rfl⟩
   ·intro L a w hv K Q hK
    obtain ⟨p2, v9, v10, hs⟩ := hv
    refine wpOp_go rfl rfl hs (OpT_sliceHM (m := (y1.toNat : Int)) (q := (y1.toNat : Int)) rfl rfl rfl rfl rfl rfl slF30 (i := 4) rfl hc3) ?_
    rintro _ ⟨v10', rfl⟩ a' w' hs'
    exact hK a' w' ⟨p2, v9, v10', hs'.putF (i := 18) rfl [0, 1, 2] [0, 1, 2, 3, 4, 5, 6, 8] rfl rfl rfl rfl⟩
   ·intro L a w hL hv
    rw [allTrue hL] at hv
    obtain ⟨p2, v9, v10, hs⟩ := hv
    refine (show TA _ _ _ 9 ⟨[(0, some (.pointer (some ⟨b_m, 0, none⟩))), (2, some (vbufs1)), (6, some (.pointer (some ⟨b2, 0, none⟩))), (10, some (v4)), (18, some (v8)), (73, some (v4)), (74, some (vI (len (sub out1 (0 : Int) used1)))), (75, some (vI x1)), (20, some (vU32 y1)), (80, some (.pointer (some ⟨b_m, 0, none⟩))), (84, some (v9)), (88, some (v10))], [some (cellsR b_m 76 [vm1, vm2]), some (rowsX u8S true vm2 vsm1 rows1 none), some (cellsR b2 40 [v7])], [Fact.sl RegionS vm1 m.l, Fact.sl (Shape.slice SegS) vbufs1 bufs, Fact.sl u8S v7 Wait3, Fact.sl u32S v4 (sub out1 (0 : Int) used1), Fact.sl u8S v8 rest1, Fact.sl SegS v9 y2, Fact.sl u8S v10 (sub rest1 (0 : Int) (y1.toNat : Int))]⟩ from ?_) a w (hs.wkS [0, 2, 6, 10, 18, 73, 74, 75, 20, 80, 84, 88] [0, 1, 2] [0, 1, 2, 3, 4, 6, 7] rfl rfl rfl rfl)
    clear hs hL
    obtain ⟨scatte1, hx3, h⟩ := ob_e h
    refine TA_exP htb (by kernel_rfl) rfl rfl (OpT_callP [3, 4, 2] (w_seg_Scatter hx3) [0, 1] [0, 5, 6] rfl rfl rfl rfl rfl callee33 rfl rfl rfl rfl rfl) ?_
    rintro _ ⟨_, _, _, ⟨rfl, rfl, rfl⟩, rfl⟩
    refine TA_end rfl ?_
    refine Tk_wkS (fr' := [(0, some (.pointer (some ⟨b_m, 0, none⟩))), (2, some (vbufs1)), (6, some (.pointer (some ⟨b2, 0, none⟩))), (10, some (v4)), (18, some (v8)), (73, some (v4)), (74, some (vI (len (sub out1 (0 : Int) used1)))), (75, some (vI x1)), (20, some (vU32 y1))]) (own' := [some (cellsR b_m 76 [vm1, vm2]), some (rowsX u8S true vm2 vsm1 scatte1.2.2 none), some (cellsR b2 40 [v7])]) (shr' := [Fact.sl RegionS vm1 m.l, Fact.sl (Shape.slice SegS) vbufs1 bufs, Fact.sl u8S v7 Wait3, Fact.sl u32S v4 (sub out1 (0 : Int) used1), Fact.sl u8S v8 rest1]) [0, 2, 6, 10, 18, 73, 74, 75, 20] [0, 1, 2] [0, 1, 2, 3, 4] rfl rfl rfl rfl ?_
    refine Tk_region (Tops_step rfl (OpT_move rfl rfl rfl rfl) ?_)
    refine Tops_step rfl (OpT_move rfl rfl rfl rfl) ?_
    refine Tops_step rfl (OpT_move rfl rfl rfl rfl) ?_
    refine Tops_step rfl (OpT_lenS rfl rfl rfl rfl Try.underlying30 (i := 4) rfl) ?_
    refine Tops_step rfl (OpT_move rfl rfl rfl rfl) ?_
    refine Tops_step rfl (OpT_lenS rfl rfl rfl rfl Try.underlying30 (i := 4) rfl) ?_
    obtain ⟨hc4, h⟩ := chk_e h
    refine Tops_ex rfl (OpT_sliceLHM (l := (y1.toNat : Int)) (m := len rest1) (q := len rest1) rfl rfl rfl rfl rfl rfl rfl slF30 (i := 4) rfl hc4) fun v11 => ?_
    refine Tops_step rfl (OpT_assign rfl rfl rfl rfl) ?_
    refine Tops_nil (Tk_wkS (fr' := [(0, some (.pointer (some ⟨b_m, 0, none⟩))), (2, some (vbufs1)), (6, some (.pointer (some ⟨b2, 0, none⟩))), (10, some (v4)), (18, some (v11)), (73, some (v4)), (74, some (vI (len (sub out1 (0 : Int) used1)))), (75, some (vI x1))]) (own' := [some (cellsR b_m 76 [vm1, vm2]), some (rowsX u8S true vm2 vsm1 scatte1.2.2 none), some (cellsR b2 40 [v7])]) (shr' := [Fact.sl RegionS vm1 m.l, Fact.sl (Shape.slice SegS) vbufs1 bufs, Fact.sl u8S v7 Wait3, Fact.sl u32S v4 (sub out1 (0 : Int) used1), Fact.sl u8S v11 (sub rest1 (y1.toNat : Int) (len rest1))]) [0, 2, 6, 10, 18, 73, 74, 75] [0, 1, 2] [0, 1, 2, 3, 5] rfl rfl rfl rfl ?_)
    refine Tk_blk (Tk_region (Tops_step rfl (OpT_bin rfl rfl rfl rfl rfl (bin_add_i (a := x1) (b := (1 : Int)))) ?_))
    refine Tops_step rfl (OpT_move rfl rfl rfl rfl) ?_
    refine Tops_nil (Tk_wkS (fr' := [(0, some (.pointer (some ⟨b_m, 0, none⟩))), (2, some (vbufs1)), (6, some (.pointer (some ⟨b2, 0, none⟩))), (10, some (v4)), (18, some (v11)), (73, some (v4)), (74, some (vI (len (sub out1 (0 : Int) used1)))), (75, some (vI (wi (x1 + (1 : Int)))))]) (own' := [some (cellsR b_m 76 [vm1, vm2]), some (rowsX u8S true vm2 vsm1 scatte1.2.2 none), some (cellsR b2 40 [v7])]) (shr' := [Fact.sl RegionS vm1 m.l, Fact.sl (Shape.slice SegS) vbufs1 bufs, Fact.sl u8S v7 Wait3, Fact.sl u32S v4 (sub out1 (0 : Int) used1), Fact.sl u8S v11 (sub rest1 (y1.toNat : Int) (len rest1))]) [0, 2, 6, 10, 18, 73, 74, 75] [0, 1, 2] [0, 1, 2, 3, 4] rfl rfl rfl rfl ?_)
    exact Tk_backS (scatte1.2.2, Wait3, sub rest1 (y1.toNat : Int) (len rest1), wi (x1 + (1 : Int)), v7, v11) h [0, 2, 6, 10, 18, 73, 74, 75] [0, 1, 2] [0, 1, 2, 3, 4] rfl rfl rfl rfl rfl
  ·replace h := br_f hg1 h
   refine Tk_condF (congrArg (fun b => some (Value.bool b)) hg1) ?_
   refine Tk_exit _ rfl ?_
   refine Tk_seq (Tk_region (Tops_ex rfl (OpT_buildSlice (S := u8S) (xs := ([] : List UInt8)) (css := []) (cs := []) (e := 5) rfl rfl rfl rfl (bldF slF30 (by decide) (by kernel_rfl)) rfl rfl rfl rfl (rel_plainD (S := u8S) (xs := ([] : List UInt8)) (css := []) rfl rfl)) fun v12 => ?_))
   refine Tops_step rfl (OpT_move rfl rfl rfl rfl) ?_
   obtain ⟨hc5, h⟩ := chk_e h
   refine Tops_ex rfl (OpT_append rfl rfl rfl rfl rfl slF30 (i := 3) (j := 4) rfl rfl hc5) fun v13 => ?_
   refine Tops_step rfl (OpT_build1 (fun z0 => [(0, z0)]) (fun z0 => [z0]) rfl rfl rfl rfl (is_row (i := 3) rfl) (by intros; kernel_rfl)) ?_
   refine Tops_step rfl (OpT_move rfl rfl rfl rfl) ?_
   refine Tops_step rfl (OpT_storeA1 (fun z0 => [z0]) (cs' := [v13]) rfl rfl rfl rfl tyF40 (i := 2) rfl (is_row (i := 3) rfl) (fun _ _ _ => rfl) rfl rfl rfl) ?_
   refine Tops_step rfl (OpT_assign rfl rfl rfl rfl) ?_
   refine Tops_step rfl (OpT_assign rfl rfl rfl rfl) ?_
   refine Tops_nil (Tk_wkS (fr' := [(6, some (.pointer (some ⟨b2, 0, none⟩))), (7, some (v4)), (8, some (vI (0 : Int)))]) (own' := [some (cellsR b_m 76 [vm1, vm2]), some (rowsX u8S true vm2 vsm1 rows1 none), some (cellsR b2 40 [v13]), some (rowS u8S v13 rest1)]) (shr' := [Fact.sl RegionS vm1 m.l, Fact.sl u32S v4 (sub out1 (0 : Int) used1)]) [6, 7, 8] [0, 1, 2, 3] [0, 3] rfl rfl rfl rfl ?_)
   obtain rfl := Option.some.inj h
   exact Tk_retV rfl rfl (resA (vs := [.agg #[v13], v4, vI (0 : Int)]) rfl ⟨⟨_, 2, _, _, _, rfl, rfl, .inl ⟨tyF40, rfl, rfl⟩⟩, rfl, rfl, trivial⟩) [0, 1, 3] [1] rfl rfl rfl ⟨v13, v4, rfl, rfl, rfl⟩
 ·intro HJ1
  refine Tk_block (Tk_nilrow u32S ?_)
  refine Tk_nilfact u8S ?_
  refine Tk_loopS (σ := (List UInt8) × (List UInt8) × UInt64 × (List UInt32) × Int × Int × Value × Value × Value) [0, 2, 4, 6, 9, 10, 11, 28, 29, 30] [0, 1, 2, 3, 4] [0, 2, 1, 3] (fun s => ⟨[(0, some (.pointer (some ⟨b_m, 0, none⟩))), (2, some (vbufs1)), (4, some (.pointer (some ⟨b1, 0, none⟩))), (6, some (.pointer (some ⟨b2, 0, none⟩))), (9, some (vU64 s.2.2.1)), (10, some (s.2.2.2.2.2.2.2.2)), (11, some (vI s.2.2.2.2.1)), (28, some (vbufs1)), (29, some (vI (len bufs))), (30, some (vI s.2.2.2.2.2.1))], [some (cellsR b_m 76 [vm1, vm2]), some (rowsX u8S true vm2 vsm1 m.b none), some (cellsR b1 40 [s.2.2.2.2.2.2.1]), some (cellsR b2 40 [s.2.2.2.2.2.2.2.1]), some (rowS u32S s.2.2.2.2.2.2.2.2 s.2.2.2.1)], [Fact.sl RegionS vm1 m.l, Fact.sl (Shape.slice SegS) vbufs1 bufs, Fact.sl u8S s.2.2.2.2.2.2.1 s.1, Fact.sl u8S s.2.2.2.2.2.2.2.1 s.2.1]⟩) (fun nf3 s => cons_GiveL3 m bufs nf3 s.1 s.2.1 s.2.2.1 s.2.2.2.1 s.2.2.2.2.1 s.2.2.2.2.2.1 = some r) fuel (sp1.Wait, ([] : List UInt8), u64 (len sp1.Wait), [], (0 : Int), (0 : Int), vsp11, .slice none 0 0, (.slice none 0 0)) h rfl rfl rfl rfl rfl (fun s h => by cases h) ?_
  rintro nf3 ⟨Wait4, Wait5, left1, out2, used2, x2, v14, v15, v16⟩ h
  replace h : cons_GiveL3B m bufs (cons_GiveL3 m bufs nf3) Wait4 Wait5 left1 out2 used2 x2 = some r := h
  unfold cons_GiveL3B at h
  refine Tk_seq (Tk_region (Tops_step rfl (OpT_bin rfl rfl rfl rfl rfl (bin_lss_i (a := x2) (b := len bufs))) ?_))
  refine Tops_nil (Tk_seq ?_)
  rcases Bool.eq_false_or_eq_true (decide (x2 < (len bufs))) with hg2 | hg2
  ·replace h := br_t hg2 h
   refine Tk_condT (congrArg (fun b => some (Value.bool b)) hg2) ?_
   refine Tk_skip (Tk_seq (Tk_block (Tk_seq (Tk_region (Tops_step rfl (OpT_move rfl rfl rfl rfl) ?_)))))
   obtain ⟨y3, hx4, h⟩ := ob_e h
   refine Tops_ex rfl (OpT_idxS rfl rfl rfl rfl rfl slF45 (i := 1) rfl hx4) fun p3 => ?_
   refine Tops_ex rfl (OpT_loadPS rfl rfl rfl rfl tyF49 (i := 4) rfl) fun v17 => ?_
   refine Tops_step rfl (OpT_assign rfl rfl rfl rfl) ?_
   refine Tops_step rfl (OpT_assign rfl rfl rfl rfl) ?_
   refine Tops_nil (Tk_wkS (fr' := [(0, some (.pointer (some ⟨b_m, 0, none⟩))), (2, some (vbufs1)), (4, some (.pointer (some ⟨b1, 0, none⟩))), (6, some (.pointer (some ⟨b2, 0, none⟩))), (9, some (vU64 left1)), (10, some (v16)), (11, some (vI used2)), (28, some (vbufs1)), (29, some (vI (len bufs))), (30, some (vI x2)), (12, some (vI x2)), (13, some (v17))]) (own' := [some (cellsR b_m 76 [vm1, vm2]), some (rowsX u8S true vm2 vsm1 m.b none), some (cellsR b1 40 [v14]), some (cellsR b2 40 [v15]), some (rowS u32S v16 out2)]) (shr' := [Fact.sl RegionS vm1 m.l, Fact.sl (Shape.slice SegS) vbufs1 bufs, Fact.sl u8S v14 Wait4, Fact.sl u8S v15 Wait5, Fact.sl SegS v17 y3]) [0, 2, 4, 6, 9, 10, 11, 28, 29, 30, 12, 13] [0, 1, 2, 3, 4] [0, 1, 2, 3, 5] rfl rfl rfl rfl ?_)
   refine Tk_seq (Tk_seq (Tk_region (Tops_step rfl (OpT_move rfl rfl rfl rfl) ?_)))
   refine Tops_step rfl (OpT_bin rfl rfl rfl rfl rfl (bin_eql_u64 (a := left1) (b := (0 : UInt64)))) ?_
   refine Tops_nil (Tk_wkS (fr' := [(0, some (.pointer (some ⟨b_m, 0, none⟩))), (2, some (vbufs1)), (4, some (.pointer (some ⟨b1, 0, none⟩))), (6, some (.pointer (some ⟨b2, 0, none⟩))), (9, some (vU64 left1)), (10, some (v16)), (11, some (vI used2)), (28, some (vbufs1)), (29, some (vI (len bufs))), (30, some (vI x2)), (12, some (vI x2)), (13, some (v17)), (36, some (vB (left1 == (0 : UInt64))))]) (own' := [some (cellsR b_m 76 [vm1, vm2]), some (rowsX u8S true vm2 vsm1 m.b none), some (cellsR b1 40 [v14]), some (cellsR b2 40 [v15]), some (rowS u32S v16 out2)]) (shr' := [Fact.sl RegionS vm1 m.l, Fact.sl (Shape.slice SegS) vbufs1 bufs, Fact.sl u8S v14 Wait4, Fact.sl u8S v15 Wait5, Fact.sl SegS v17 y3]) [0, 2, 4, 6, 9, 10, 11, 28, 29, 30, 12, 13, 36] [0, 1, 2, 3, 4] [0, 1, 2, 3, 4] rfl rfl rfl rfl ?_)
   rcases Bool.eq_false_or_eq_true (left1 == (0 : UInt64)) with hg3 | hg3
   ·replace h := br_t hg3 h
    refine Tk_condT (congrArg (fun b => some (Value.bool b)) hg3) ?_
    refine Tk_exit _ rfl ?_
    exact Tk_jmpS (HJ1 (Wait4, Wait5, out2, used2, v14, v15, v16) h) [0, 2, 4, 6, 10, 11] [0, 1, 2, 3, 4] [0, 1, 2, 3] rfl rfl rfl rfl
   ·replace h := br_f hg3 h
    refine Tk_condF (congrArg (fun b => some (Value.bool b)) hg3) ?_
    refine Tk_skip (Tk_seq (Tk_region (Tops_step rfl (OpT_move rfl rfl rfl rfl) ?_)))
    obtain ⟨total1, hx5, h⟩ := ob_e h
    refine Tops_exP rfl (OpT_call (w_seg_Total hx5) [] [4] rfl rfl rfl rfl rfl callee31 rfl rfl rfl rfl) ?_
    rintro _ ⟨_, _, _, ⟨rfl, rfl, rfl⟩, rfl⟩
    refine Tops_step rfl (OpT_move rfl rfl rfl rfl) ?_
    refine Tops_step rfl (OpT_extract rfl rfl rfl rfl rfl) ?_
    refine Tops_step rfl (OpT_extract rfl rfl rfl rfl rfl) ?_
    refine Tops_step rfl (OpT_assign rfl rfl rfl rfl) ?_
    refine Tops_step rfl (OpT_assign rfl rfl rfl rfl) ?_
    refine Tops_nil (Tk_wkS (fr' := [(0, some (.pointer (some ⟨b_m, 0, none⟩))), (2, some (vbufs1)), (4, some (.pointer (some ⟨b1, 0, none⟩))), (6, some (.pointer (some ⟨b2, 0, none⟩))), (9, some (vU64 left1)), (10, some (v16)), (11, some (vI used2)), (28, some (vbufs1)), (29, some (vI (len bufs))), (30, some (vI x2)), (12, some (vI x2)), (13, some (v17)), (15, some (vU64 total1.2))]) (own' := [some (cellsR b_m 76 [vm1, vm2]), some (rowsX u8S true vm2 vsm1 m.b none), some (cellsR b1 40 [v14]), some (cellsR b2 40 [v15]), some (rowS u32S v16 out2)]) (shr' := [Fact.sl RegionS vm1 m.l, Fact.sl (Shape.slice SegS) vbufs1 bufs, Fact.sl u8S v14 Wait4, Fact.sl u8S v15 Wait5, Fact.sl SegS v17 y3]) [0, 2, 4, 6, 9, 10, 11, 28, 29, 30, 12, 13, 15] [0, 1, 2, 3, 4] [0, 1, 2, 3, 4] rfl rfl rfl rfl ?_)
    refine Tk_seq (Tk_region (Tops_step rfl (OpT_move rfl rfl rfl rfl) ?_))
    refine Tops_step rfl (OpT_move rfl rfl rfl rfl) ?_
    refine Tops_step rfl (OpT_min_u64 (u := left1) (v := total1.2) rfl rfl rfl rfl rfl) ?_
    refine Tops_step rfl (OpT_assign rfl rfl rfl rfl) ?_
    refine Tops_nil (Tk_wkS (fr' := [(0, some (.pointer (some ⟨b_m, 0, none⟩))), (2, some (vbufs1)), (4, some (.pointer (some ⟨b1, 0, none⟩))), (6, some (.pointer (some ⟨b2, 0, none⟩))), (9, some (vU64 left1)), (10, some (v16)), (11, some (vI used2)), (28, some (vbufs1)), (29, some (vI (len bufs))), (30, some (vI x2)), (12, some (vI x2)), (13, some (v17)), (16, some (vU64 (minu64 left1 total1.2)))]) (own' := [some (cellsR b_m 76 [vm1, vm2]), some (rowsX u8S true vm2 vsm1 m.b none), some (cellsR b1 40 [v14]), some (cellsR b2 40 [v15]), some (rowS u32S v16 out2)]) (shr' := [Fact.sl RegionS vm1 m.l, Fact.sl (Shape.slice SegS) vbufs1 bufs, Fact.sl u8S v14 Wait4, Fact.sl u8S v15 Wait5, Fact.sl SegS v17 y3]) [0, 2, 4, 6, 9, 10, 11, 28, 29, 30, 12, 13, 16] [0, 1, 2, 3, 4] [0, 1, 2, 3, 4] rfl rfl rfl rfl ?_)
    refine Tk_seq (Tk_seq (Tk_region (Tops_step rfl (OpT_move rfl rfl rfl rfl) ?_)))
    refine Tops_step rfl (OpT_bin rfl rfl rfl rfl rfl (bin_gtr_u64 (a := minu64 left1 total1.2) (b := (0 : UInt64)))) ?_
    refine Tops_nil (Tk_wkS (fr' := [(0, some (.pointer (some ⟨b_m, 0, none⟩))), (2, some (vbufs1)), (4, some (.pointer (some ⟨b1, 0, none⟩))), (6, some (.pointer (some ⟨b2, 0, none⟩))), (9, some (vU64 left1)), (10, some (v16)), (11, some (vI used2)), (28, some (vbufs1)), (29, some (vI (len bufs))), (30, some (vI x2)), (12, some (vI x2)), (13, some (v17)), (16, some (vU64 (minu64 left1 total1.2))), (46, some (vB (decide ((minu64 left1 total1.2) > (0 : UInt64)))))]) (own' := [some (cellsR b_m 76 [vm1, vm2]), some (rowsX u8S true vm2 vsm1 m.b none), some (cellsR b1 40 [v14]), some (cellsR b2 40 [v15]), some (rowS u32S v16 out2)]) (shr' := [Fact.sl RegionS vm1 m.l, Fact.sl (Shape.slice SegS) vbufs1 bufs, Fact.sl u8S v14 Wait4, Fact.sl u8S v15 Wait5, Fact.sl SegS v17 y3]) [0, 2, 4, 6, 9, 10, 11, 28, 29, 30, 12, 13, 16, 46] [0, 1, 2, 3, 4] [0, 1, 2, 3, 4] rfl rfl rfl rfl ?_)
    refine Tk_join (α := (List UInt8) × (List UInt8) × (List UInt32) × Int × Value × Value × Value) (fun s => ⟨[(0, some (.pointer (some ⟨b_m, 0, none⟩))), (2, some (vbufs1)), (4, some (.pointer (some ⟨b1, 0, none⟩))), (6, some (.pointer (some ⟨b2, 0, none⟩))), (9, some (vU64 left1)), (10, some (s.2.2.2.2.2.2)), (11, some (vI s.2.2.2.1)), (28, some (vbufs1)), (29, some (vI (len bufs))), (30, some (vI x2)), (16, some (vU64 (minu64 left1 total1.2)))], [some (cellsR b_m 76 [vm1, vm2]), some (rowsX u8S true vm2 vsm1 m.b none), some (cellsR b1 40 [s.2.2.2.2.1]), some (cellsR b2 40 [s.2.2.2.2.2.1]), some (rowS u32S s.2.2.2.2.2.2 s.2.2.1)], [Fact.sl RegionS vm1 m.l, Fact.sl (Shape.slice SegS) vbufs1 bufs, Fact.sl u8S s.2.2.2.2.1 s.1, Fact.sl u8S s.2.2.2.2.2.1 s.2.1]⟩) (fun s => cons_GiveJ4 left1 x2 (cons_GiveL3 m bufs nf3) total1 s.1 s.2.1 s.2.2.1 s.2.2.2.1 = some r) ?_ ?_
    ·rintro ⟨Wait6, Wait7, l1, used3, v18, v19, v20⟩ h
     replace h : cons_GiveJ4 left1 x2 (cons_GiveL3 m bufs nf3) total1 Wait6 Wait7 l1 used3 = some r := h
     unfold cons_GiveJ4 at h
     refine Tk_region (Tops_step rfl (OpT_move rfl rfl rfl rfl) ?_)
     refine Tops_step rfl (OpT_move rfl rfl rfl rfl) ?_
     refine Tops_step rfl (OpT_cnv rfl rfl rfl rfl (cnv_u64_u32 (n := minu64 left1 total1.2) Try.underlying38 Try.underlying50)) ?_
     refine Tops_ex rfl (OpT_buildSlice (S := u32S) (xs := [(minu64 left1 total1.2).toUInt32]) (css := [[vU32 ((minu64 left1 total1.2).toUInt32)]]) (cs := [vU32 ((minu64 left1 total1.2).toUInt32)]) (e := 50) rfl rfl rfl rfl (bldF slF41 (by decide) (by kernel_rfl)) rfl rfl rfl rfl (rel_plainD (S := u32S) (xs := [(minu64 left1 total1.2).toUInt32]) (css := [[vU32 ((minu64 left1 total1.2).toUInt32)]]) rfl rfl)) fun v21 => ?_
     obtain ⟨hc6, h⟩ := chk_e h
     refine Tops_ex rfl (OpT_appendB (S := u32S) rfl rfl rfl rfl rfl rfl slF41 (i := 4) (j := 5) rfl rfl hc6) fun v22 => ?_
     refine Tops_step rfl (OpT_move rfl rfl rfl rfl) ?_
     refine Tops_step rfl (OpT_move rfl rfl rfl rfl) ?_
     refine Tops_step rfl (OpT_bin rfl rfl rfl rfl rfl (bin_sub_u64 (a := left1) (b := minu64 left1 total1.2))) ?_
     refine Tops_step rfl (OpT_assign rfl rfl rfl rfl) ?_
     refine Tops_step rfl (OpT_assign rfl rfl rfl rfl) ?_
     refine Tops_nil (Tk_wkS (fr' := [(0, some (.pointer (some ⟨b_m, 0, none⟩))), (2, some (vbufs1)), (4, some (.pointer (some ⟨b1, 0, none⟩))), (6, some (.pointer (some ⟨b2, 0, none⟩))), (9, some (vU64 (left1 - (minu64 left1 total1.2)))), (10, some (v22)), (11, some (vI used3)), (28, some (vbufs1)), (29, some (vI (len bufs))), (30, some (vI x2))]) (own' := [some (cellsR b_m 76 [vm1, vm2]), some (rowsX u8S true vm2 vsm1 m.b none), some (cellsR b1 40 [v18]), some (cellsR b2 40 [v19]), some (rowS u32S v22 (l1 ++ [(minu64 left1 total1.2).toUInt32]))]) (shr' := [Fact.sl RegionS vm1 m.l, Fact.sl (Shape.slice SegS) vbufs1 bufs, Fact.sl u8S v18 Wait6, Fact.sl u8S v19 Wait7]) [0, 2, 4, 6, 9, 10, 11, 28, 29, 30] [0, 1, 2, 3, 4] [0, 1, 2, 3] rfl rfl rfl rfl ?_)
     refine Tk_blk (Tk_region (Tops_step rfl (OpT_bin rfl rfl rfl rfl rfl (bin_add_i (a := x2) (b := (1 : Int)))) ?_))
     refine Tops_step rfl (OpT_move rfl rfl rfl rfl) ?_
     refine Tops_nil (Tk_wkS (fr' := [(0, some (.pointer (some ⟨b_m, 0, none⟩))), (2, some (vbufs1)), (4, some (.pointer (some ⟨b1, 0, none⟩))), (6, some (.pointer (some ⟨b2, 0, none⟩))), (9, some (vU64 (left1 - (minu64 left1 total1.2)))), (10, some (v22)), (11, some (vI used3)), (28, some (vbufs1)), (29, some (vI (len bufs))), (30, some (vI (wi (x2 + (1 : Int)))))]) (own' := [some (cellsR b_m 76 [vm1, vm2]), some (rowsX u8S true vm2 vsm1 m.b none), some (cellsR b1 40 [v18]), some (cellsR b2 40 [v19]), some (rowS u32S v22 (l1 ++ [(minu64 left1 total1.2).toUInt32]))]) (shr' := [Fact.sl RegionS vm1 m.l, Fact.sl (Shape.slice SegS) vbufs1 bufs, Fact.sl u8S v18 Wait6, Fact.sl u8S v19 Wait7]) [0, 2, 4, 6, 9, 10, 11, 28, 29, 30] [0, 1, 2, 3, 4] [0, 1, 2, 3] rfl rfl rfl rfl ?_)
     exact Tk_backS (Wait6, Wait7, left1 - (minu64 left1 total1.2), l1 ++ [(minu64 left1 total1.2).toUInt32], used3, wi (x2 + (1 : Int)), v18, v19, v22) h [0, 2, 4, 6, 9, 10, 11, 28, 29, 30] [0, 1, 2, 3, 4] [0, 1, 2, 3] rfl rfl rfl rfl rfl
    ·intro HJ2
     rcases Bool.eq_false_or_eq_true (decide ((minu64 left1 total1.2) > (0 : UInt64))) with hg4 | hg4
     ·replace h := br_t hg4 h
      refine Tk_condT (congrArg (fun b => some (Value.bool b)) hg4) ?_
      refine Tk_seq (Tk_seq (Tk_region (Tops_step rfl (OpT_move rfl rfl rfl rfl) ?_)))
      refine Tops_step rfl (OpT_move rfl rfl rfl rfl) ?_
      obtain ⟨in1, hx6, h⟩ := ob_e h
      refine Tops_exP rfl (OpT_callP [5, 6, 2, 3, 4] (w_seg_In hx6) [0, 1] [0, 4] rfl rfl rfl rfl rfl callee32 rfl rfl rfl rfl rfl) ?_
      rintro _ ⟨_, _, _, ⟨rfl, rfl, rfl⟩, rfl⟩
      refine Tops_step rfl (OpT_assign rfl rfl rfl rfl) ?_
      refine Tops_nil (Tk_wkS (fr' := [(0, some (.pointer (some ⟨b_m, 0, none⟩))), (2, some (vbufs1)), (4, some (.pointer (some ⟨b1, 0, none⟩))), (6, some (.pointer (some ⟨b2, 0, none⟩))), (9, some (vU64 left1)), (10, some (v16)), (28, some (vbufs1)), (29, some (vI (len bufs))), (30, some (vI x2)), (12, some (vI x2)), (16, some (vU64 (minu64 left1 total1.2))), (17, some (vI in1))]) (own' := [some (cellsR b_m 76 [vm1, vm2]), some (rowsX u8S true vm2 vsm1 m.b none), some (cellsR b1 40 [v14]), some (cellsR b2 40 [v15]), some (rowS u32S v16 out2)]) (shr' := [Fact.sl RegionS vm1 m.l, Fact.sl (Shape.slice SegS) vbufs1 bufs, Fact.sl u8S v14 Wait4, Fact.sl u8S v15 Wait5]) [0, 2, 4, 6, 9, 10, 28, 29, 30, 12, 16, 17] [0, 1, 2, 3, 4] [0, 1, 2, 3] rfl rfl rfl rfl ?_)
      refine Tk_seq (Tk_region (Tops_step rfl (OpT_move rfl rfl rfl rfl) ?_))
      refine Tops_step rfl (OpT_bin rfl rfl rfl rfl rfl (bin_neq_i (a := in1) (b := (0 : Int)))) ?_
      refine Tops_nil (Tk_wkS (fr' := [(0, some (.pointer (some ⟨b_m, 0, none⟩))), (2, some (vbufs1)), (4, some (.pointer (some ⟨b1, 0, none⟩))), (6, some (.pointer (some ⟨b2, 0, none⟩))), (9, some (vU64 left1)), (10, some (v16)), (28, some (vbufs1)), (29, some (vI (len bufs))), (30, some (vI x2)), (12, some (vI x2)), (16, some (vU64 (minu64 left1 total1.2))), (17, some (vI in1)), (51, some (vB (in1 != (0 : Int))))]) (own' := [some (cellsR b_m 76 [vm1, vm2]), some (rowsX u8S true vm2 vsm1 m.b none), some (cellsR b1 40 [v14]), some (cellsR b2 40 [v15]), some (rowS u32S v16 out2)]) (shr' := [Fact.sl RegionS vm1 m.l, Fact.sl (Shape.slice SegS) vbufs1 bufs, Fact.sl u8S v14 Wait4, Fact.sl u8S v15 Wait5]) [0, 2, 4, 6, 9, 10, 28, 29, 30, 12, 16, 17, 51] [0, 1, 2, 3, 4] [0, 1, 2, 3] rfl rfl rfl rfl ?_)
      rcases Bool.eq_false_or_eq_true (in1 != (0 : Int)) with hg5 | hg5
      ·replace h := br_t hg5 h
       refine Tk_condT (congrArg (fun b => some (Value.bool b)) hg5) ?_
       refine Tk_seq (Tk_region (Tops_step rfl (OpT_build (v := .agg #[.slice none 0 0]) rfl rfl rfl rfl (bldV (by kernel_rfl))) ?_))
       refine Tops_step rfl (OpT_move rfl rfl rfl rfl) ?_
       refine Tops_step rfl (OpT_storeC (cs' := [.slice none 0 0]) rfl rfl rfl rfl tyF40 (i := 3) rfl rfl rfl (one_of rfl) rfl) ?_
       refine Tops_step rfl (OpT_assign rfl rfl rfl rfl) ?_
       refine Tops_step rfl (OpT_assign rfl rfl rfl rfl) ?_
       refine Tops_nil (Tk_wkS (fr' := [(6, some (.pointer (some ⟨b2, 0, none⟩))), (7, some (.slice none 0 0)), (8, some (vI in1))]) (own' := [some (cellsR b_m 76 [vm1, vm2]), some (rowsX u8S true vm2 vsm1 m.b none), some (cellsR b2 40 [.slice none 0 0])]) (shr' := [Fact.sl RegionS vm1 m.l]) [6, 7, 8] [0, 1, 3] [0] rfl rfl rfl rfl ?_)
       refine Tk_nilrow u8S ?_
       refine Tk_nilfact u32S ?_
       obtain rfl := Option.some.inj h
       exact Tk_retV rfl rfl (resA (vs := [.agg #[.slice none 0 0], .slice none 0 0, vI in1]) rfl ⟨⟨_, 2, _, _, _, rfl, rfl, .inl ⟨tyF40, rfl, rfl⟩⟩, rfl, rfl, trivial⟩) [0, 1, 3] [1] rfl rfl rfl ⟨(.slice none 0 0), (.slice none 0 0), rfl, rfl, rfl⟩
      ·replace h := br_f hg5 h
       refine Tk_condF (congrArg (fun b => some (Value.bool b)) hg5) ?_
       refine Tk_skip (Tk_region (Tops_step rfl (OpT_move rfl rfl rfl rfl) ?_))
       refine Tops_step rfl (OpT_bin rfl rfl rfl rfl rfl (bin_add_i (a := x2) (b := (1 : Int)))) ?_
       refine Tops_step rfl (OpT_assign rfl rfl rfl rfl) ?_
       refine Tops_nil (Tk_wkS (fr' := [(0, some (.pointer (some ⟨b_m, 0, none⟩))), (2, some (vbufs1)), (4, some (.pointer (some ⟨b1, 0, none⟩))), (6, some (.pointer (some ⟨b2, 0, none⟩))), (9, some (vU64 left1)), (10, some (v16)), (28, some (vbufs1)), (29, some (vI (len bufs))), (30, some (vI x2)), (16, some (vU64 (minu64 left1 total1.2))), (11, some (vI (wi (x2 + (1 : Int)))))]) (own' := [some (cellsR b_m 76 [vm1, vm2]), some (rowsX u8S true vm2 vsm1 m.b none), some (cellsR b1 40 [v14]), some (cellsR b2 40 [v15]), some (rowS u32S v16 out2)]) (shr' := [Fact.sl RegionS vm1 m.l, Fact.sl (Shape.slice SegS) vbufs1 bufs, Fact.sl u8S v14 Wait4, Fact.sl u8S v15 Wait5]) [0, 2, 4, 6, 9, 10, 28, 29, 30, 16, 11] [0, 1, 2, 3, 4] [0, 1, 2, 3] rfl rfl rfl rfl ?_)
       exact Tk_jmpS (HJ2 (Wait4, Wait5, out2, wi (x2 + (1 : Int)), v14, v15, v16) h) [0, 2, 4, 6, 9, 10, 11, 28, 29, 30, 16] [0, 1, 2, 3, 4] [0, 1, 2, 3] rfl rfl rfl rfl
     ·replace h := br_f hg4 h
      refine Tk_condF (congrArg (fun b => some (Value.bool b)) hg4) ?_
      refine Tk_skip ?_
      exact Tk_jmpS (HJ2 (Wait4, Wait5, out2, used2, v14, v15, v16) h) [0, 2, 4, 6, 9, 10, 11, 28, 29, 30, 16] [0, 1, 2, 3, 4] [0, 1, 2, 3] rfl rfl rfl rfl
  ·replace h := br_f hg2 h
   refine Tk_condF (congrArg (fun b => some (Value.bool b)) hg2) ?_
   refine Tk_exit _ rfl ?_
   exact Tk_jmpS (HJ1 (Wait4, Wait5, out2, used2, v14, v15, v16) h) [0, 2, 4, 6, 10, 11] [0, 1, 2, 3, 4] [0, 1, 2, 3] rfl rfl rfl rfl

set_option maxRecDepth 100000 in
set_option maxHeartbeats 4000000 in
theorem w_kit_Words {ap0 : List UInt32} {b : List UInt32} {vap01 : Value} {vb1 : Value} {r : Bool} (h : kit_Words ap0 b = some r) :
  Ctr Try.prog 20 #[vap01, vb1] [] [Fact.sl u32S vap01 ap0, Fact.sl u32S vb1 b]
   (fun rv own shr => rv = vB r ∧ own = [] ∧ shr = []) := by
 unfold kit_Words at h
 refine Ctr.mk (args := [vap01, vb1]) Try.func20 rfl rfl (fun R0 w0 B => ?_)
 refine Tk_seq (Tk_region (Tops_step rfl (OpT_assign rfl rfl rfl rfl) ?_))
 refine Tops_nil (Tk_wkS (fr' := [(0, some (vap01)), (1, some (vb1))]) (own' := []) (shr' := [Fact.sl u32S vap01 ap0, Fact.sl u32S vb1 b]) [0, 1] [] [0, 1] rfl rfl rfl rfl ?_)
 refine Tk_seq (Tk_seq (Tk_region (Tops_step rfl (OpT_move rfl rfl rfl rfl) ?_)))
 refine Tops_step rfl (OpT_lenS rfl rfl rfl rfl Try.underlying41 (i := 0) rfl) ?_
 refine Tops_step rfl (OpT_move rfl rfl rfl rfl) ?_
 refine Tops_step rfl (OpT_lenS rfl rfl rfl rfl Try.underlying41 (i := 1) rfl) ?_
 refine Tops_step rfl (OpT_bin rfl rfl rfl rfl rfl (bin_neq_i (a := len ap0) (b := len b))) ?_
 refine Tops_nil (Tk_wkS (fr' := [(0, some (vap01)), (1, some (vb1)), (10, some (vB ((len ap0) != (len b))))]) (own' := []) (shr' := [Fact.sl u32S vap01 ap0, Fact.sl u32S vb1 b]) [0, 1, 10] [] [0, 1] rfl rfl rfl rfl ?_)
 rcases Bool.eq_false_or_eq_true ((len ap0) != (len b)) with hg1 | hg1
 ·replace h := br_t hg1 h
  refine Tk_condT (congrArg (fun b => some (Value.bool b)) hg1) ?_
  refine Tk_seq (Tk_region (Tops_step rfl (OpT_assign rfl rfl rfl rfl) ?_))
  refine Tops_nil (Tk_wkS (fr' := [(4, some (vB false))]) (own' := []) (shr' := []) [4] [] [] rfl rfl rfl rfl ?_)
  obtain rfl := Option.some.inj h
  exact Tk_retV rfl rfl (resA (vs := [vB false]) rfl ⟨rfl, trivial⟩) [] [] rfl rfl rfl ⟨rfl, rfl, rfl⟩
 ·replace h := br_f hg1 h
  refine Tk_condF (congrArg (fun b => some (Value.bool b)) hg1) ?_
  refine Tk_skip (Tk_seq (Tk_seq (Tk_region (Tops_step rfl (OpT_assign rfl rfl rfl rfl) ?_))))
  refine Tops_nil (Tk_wkS (fr' := [(0, some (vap01)), (1, some (vb1)), (5, some (vI (0 : Int)))]) (own' := []) (shr' := [Fact.sl u32S vap01 ap0, Fact.sl u32S vb1 b]) [0, 1, 5] [] [0, 1] rfl rfl rfl rfl ?_)
  refine Tk_block (Tk_loopS (σ := Int) [0, 1, 5] [] [0, 1] (fun s => ⟨[(0, some (vap01)), (1, some (vb1)), (5, some (vI s))], [], [Fact.sl u32S vap01 ap0, Fact.sl u32S vb1 b]⟩) (fun nf1 s => kit_WordsL1 ap0 b nf1 s = some r) fuel (0 : Int) h rfl rfl rfl rfl rfl (fun s h => by cases h) ?_)
  rintro nf1 i1 h
  replace h : kit_WordsL1B ap0 b (kit_WordsL1 ap0 b nf1) i1 = some r := h
  unfold kit_WordsL1B at h
  refine Tk_seq (Tk_seq (Tk_region (Tops_step rfl (OpT_move rfl rfl rfl rfl) ?_)))
  refine Tops_step rfl (OpT_move rfl rfl rfl rfl) ?_
  refine Tops_step rfl (OpT_lenS rfl rfl rfl rfl Try.underlying41 (i := 0) rfl) ?_
  refine Tops_step rfl (OpT_bin rfl rfl rfl rfl rfl (bin_lss_i (a := i1) (b := len ap0))) ?_
  refine Tops_nil (Tk_wkS (fr' := [(0, some (vap01)), (1, some (vb1)), (5, some (vI i1)), (14, some (vB (decide (i1 < (len ap0)))))]) (own' := []) (shr' := [Fact.sl u32S vap01 ap0, Fact.sl u32S vb1 b]) [0, 1, 5, 14] [] [0, 1] rfl rfl rfl rfl ?_)
  rcases Bool.eq_false_or_eq_true (decide (i1 < (len ap0))) with hg2 | hg2
  ·replace h := br_t hg2 h
   refine Tk_condT (congrArg (fun b => some (Value.bool b)) hg2) ?_
   refine Tk_skip (Tk_seq (Tk_block (Tk_seq (Tk_drawT (by kernel_rfl) ?_))))
   refine TA_tb [0, 0, 3, 7, 0, 0, 48, 112, 255] (by kernel_rfl) fun htb => ?_
   refine TA_wkS (fr' := [(0, some (vap01)), (1, some (vb1)), (5, some (vI i1))]) (own' := []) (shr' := [Fact.sl u32S vap01 ap0, Fact.sl u32S vb1 b]) [0, 1, 5] [] [0, 1] rfl rfl rfl rfl ?_
   obtain ⟨y1, hx1, h⟩ := ob_e h
   obtain ⟨y2, hx2, h⟩ := ob_e h
   refine TA_seg (lo := 0) (hi := 8) htb rfl rfl (by kernel_rfl) (fun c L a w => ∃ (p1 : Value), ∃ (p2 : Value), Sat c ⟨[(0, some (vap01)), (1, some (vb1)), (5, some (vI i1)), (17, bif L 0 then some (vap01) else none), (18, bif L 1 then some (vI i1) else none), (19, bif L 2 then some (p1) else none), (20, bif L 3 then some (vU32 y1) else none), (21, bif L 4 then some (vb1) else none), (22, bif L 5 then some (vI i1) else none), (23, bif L 6 then some (p2) else none), (24, bif L 7 then some (vU32 y2) else none)], [], [Fact.sl u32S vap01 ap0, Fact.sl u32S vb1 b, (bif L 2 then Fact.pt u32S p1 y1 else Fact.tt), (bif L 6 then Fact.pt u32S p2 y2 else Fact.tt)]⟩ a w) [([], [2, 3]), ([], [2, 3]), ([0, 1], [3]), ([0, 1, 2], []), ([], [6, 7]), ([], [6, 7]), ([4, 5], [7]), ([4, 5, 6], [])] rfl (by kernel_rfl) ?_ (steps_cons ?_ (steps_cons ?_ (steps_cons ?_ (steps_cons ?_ (steps_cons ?_ (steps_cons ?_ (steps_cons ?_ (steps_cons ?_ (steps_nil))))))))) ?_
   ·intro a w hs
    exact ⟨undef, undef, hs.startF [17, 18, 19, 20, 21, 22, 23, 24] [] [0, 1, 2, 3] rfl rfl rfl rfl⟩
   ·intro L a w hv K Q hK
    obtain ⟨p1, p2, hs⟩ := hv
    refine wpOp_go rfl rfl hs (OpT_move rfl rfl rfl rfl) ?_
    rintro _ rfl a' w' hs'
    exact hK a' w' ⟨p1, p2, hs'.putF (i := 3) rfl [] [0, 1, 2, 3] rfl rfl rfl rfl⟩
   ·intro L a w hv K Q hK
    obtain ⟨p1, p2, hs⟩ := hv
    refine wpOp_go rfl rfl hs (OpT_move rfl rfl rfl rfl) ?_
    rintro _ rfl a' w' hs'
    exact hK a' w' ⟨p1, p2, hs'.putF (i := 4) rfl [] [0, 1, 2, 3] rfl rfl rfl rfl⟩
   ·intro L a w hv K Q hK
    obtain ⟨p1, p2, hs⟩ := hv
    refine wpOp_go rfl rfl hs (OpT_idxS rfl rfl rfl rfl rfl slF41 (i := 0) rfl hx1) ?_
    rintro _ ⟨p1', rfl⟩ a' w' hs'
    exact hK a' w' ⟨p1', p2, hs'.putF (i := 5) rfl [] [0, 1, 4, 3] rfl rfl rfl rfl⟩
   ·intro L a w hv K Q hK
    obtain ⟨p1, p2, hs⟩ := hv
    refine wpOp_go rfl rfl hs (OpT_loadP rfl rfl rfl rfl tyF50 (i := 2) rfl rfl) ?_
    rintro _ rfl a' w' hs'
    exact hK a' w' ⟨p1, p2, hs'.putF (i := 6) rfl [] [0, 1, 2, 3] rfl rfl rfl rfl⟩
   ·intro L a w hv K Q hK
    obtain ⟨p1, p2, hs⟩ := hv
    refine wpOp_go rfl rfl hs (OpT_move rfl rfl rfl rfl) ?_
    rintro _ rfl a' w' hs'
    exact hK a' w' ⟨p1, p2, hs'.putF (i := 7) rfl [] [0, 1, 2, 3] rfl rfl rfl rfl⟩
   ·intro L a w hv K Q hK
    obtain ⟨p1, p2, hs⟩ := hv
    refine wpOp_go rfl rfl hs (OpT_move rfl rfl rfl rfl) ?_
    rintro _ rfl a' w' hs'
    exact hK a' w' ⟨p1, p2, hs'.putF (i := 8) rfl [] [0, 1, 2, 3] rfl rfl rfl rfl⟩
   ·intro L a w hv K Q hK
    obtain ⟨p1, p2, hs⟩ := hv
    refine wpOp_go rfl rfl hs (OpT_idxS rfl rfl rfl rfl rfl slF41 (i := 1) rfl hx2) ?_
    rintro _ ⟨p2', rfl⟩ a' w' hs'
    exact hK a' w' ⟨p1, p2', hs'.putF (i := 9) rfl [] [0, 1, 2, 4] rfl rfl rfl rfl⟩
   ·intro L a w hv K Q hK
    obtain ⟨p1, p2, hs⟩ := hv
    refine wpOp_go rfl rfl hs (OpT_loadP rfl rfl rfl rfl tyF50 (i := 3) rfl rfl) ?_
    rintro _ rfl a' w' hs'
    exact hK a' w' ⟨p1, p2, hs'.putF (i := 10) rfl [] [0, 1, 2, 3] rfl rfl rfl rfl⟩
   ·intro L a w hL hv
    rw [allTrue hL] at hv
    obtain ⟨p1, p2, hs⟩ := hv
    refine (show TA _ _ _ 8 ⟨[(0, some (vap01)), (1, some (vb1)), (5, some (vI i1)), (20, some (vU32 y1)), (24, some (vU32 y2))], [], [Fact.sl u32S vap01 ap0, Fact.sl u32S vb1 b]⟩ from ?_) a w (hs.wkS [0, 1, 5, 20, 24] [] [0, 1] rfl rfl rfl rfl)
    clear hs hL
    refine TA_step htb (by kernel_rfl) rfl rfl (OpT_bin rfl rfl rfl rfl rfl (bin_neq_u32 (a := y1) (b := y2))) ?_
    refine TA_end rfl ?_
    refine Tk_wkS (fr' := [(0, some (vap01)), (1, some (vb1)), (5, some (vI i1)), (25, some (vB (y1 != y2)))]) (own' := []) (shr' := [Fact.sl u32S vap01 ap0, Fact.sl u32S vb1 b]) [0, 1, 5, 25] [] [0, 1] rfl rfl rfl rfl ?_
    rcases Bool.eq_false_or_eq_true (y1 != y2) with hg3 | hg3
    ·replace h := br_t hg3 h
     refine Tk_condT (congrArg (fun b => some (Value.bool b)) hg3) ?_
     refine Tk_seq (Tk_region (Tops_step rfl (OpT_assign rfl rfl rfl rfl) ?_))
     refine Tops_nil (Tk_wkS (fr' := [(4, some (vB false))]) (own' := []) (shr' := []) [4] [] [] rfl rfl rfl rfl ?_)
     obtain rfl := Option.some.inj h
     exact Tk_retV rfl rfl (resA (vs := [vB false]) rfl ⟨rfl, trivial⟩) [] [] rfl rfl rfl ⟨rfl, rfl, rfl⟩
    ·replace h := br_f hg3 h
     refine Tk_condF (congrArg (fun b => some (Value.bool b)) hg3) ?_
     refine Tk_skip (Tk_blk (Tk_region (Tops_step rfl (OpT_move rfl rfl rfl rfl) ?_)))
     refine Tops_step rfl (OpT_bin rfl rfl rfl rfl rfl (bin_add_i (a := i1) (b := (1 : Int)))) ?_
     refine Tops_step rfl (OpT_assign rfl rfl rfl rfl) ?_
     refine Tops_nil (Tk_wkS (fr' := [(0, some (vap01)), (1, some (vb1)), (5, some (vI (wi (i1 + (1 : Int)))))]) (own' := []) (shr' := [Fact.sl u32S vap01 ap0, Fact.sl u32S vb1 b]) [0, 1, 5] [] [0, 1] rfl rfl rfl rfl ?_)
     exact Tk_backS (wi (i1 + (1 : Int))) h [0, 1, 5] [] [0, 1] rfl rfl rfl rfl rfl
  ·replace h := br_f hg2 h
   refine Tk_condF (congrArg (fun b => some (Value.bool b)) hg2) ?_
   refine Tk_exit _ rfl ?_
   refine Tk_seq (Tk_region (Tops_step rfl (OpT_assign rfl rfl rfl rfl) ?_))
   refine Tops_nil (Tk_wkS (fr' := [(4, some (vB true))]) (own' := []) (shr' := []) [4] [] [] rfl rfl rfl rfl ?_)
   obtain rfl := Option.some.inj h
   exact Tk_retV rfl rfl (resA (vs := [vB true]) rfl ⟨rfl, trivial⟩) [] [] rfl rfl rfl ⟨rfl, rfl, rfl⟩

theorem ws_law28zrooms {l : List Int} {vl1 : Value} {r : (List (List Seg))} (h : law28zrooms l = some r) :
  Ctr Try.prog 17 #[vl1] [] [Fact.sl iS vl1 l]
   (fun rv own shr => ∃ (w1 : Value), rv = w1 ∧ own = [] ∧ shr = [Fact.sl (Shape.slice SegS) w1 r]) :=
 Ctr.sh (w_law28zrooms h) (by rintro w1 _ _ ⟨_, rfl, rfl, rfl⟩; exact ⟨[], _, _, _, _, rfl, w1, rfl, rfl, rfl⟩)

set_option maxRecDepth 100000 in
set_option maxHeartbeats 4000000 in
theorem w_law28zlives  {r : Bool} (h : law28zlives = some r) :
  Ctr Try.prog 8 #[] [] []
   (fun rv own shr => rv = vB r ∧ own = [] ∧ shr = []) := by
 unfold law28zlives at h
 refine Ctr.mk (args := []) Try.func8 rfl rfl (fun R0 w0 B => ?_)
 refine Tk_seq (Tk_region (Tops_step rfl (OpT_assign rfl rfl rfl rfl) ?_))
 refine Tops_nil (Tk_wkS (fr' := []) (own' := []) (shr' := []) [] [] [] rfl rfl rfl rfl ?_)
 refine Tk_seq (Tk_region ?_)
 obtain ⟨memory1, hx1, h⟩ := ob_e h
 refine Tops_exP rfl (OpT_call (w_law28zmemory hx1) [] [] rfl rfl rfl rfl rfl callee13 rfl rfl rfl rfl) ?_
 rintro _ ⟨v1, _, _, ⟨_, rfl, rfl, rfl⟩, rfl⟩
 refine Tops_retire (i := 0) rfl ?_
 obtain ⟨new1, hx2, h⟩ := ob_e h
 refine Tops_exP rfl (OpT_call (w_gmem_New hx2) [] [0] rfl rfl rfl rfl rfl callee12 rfl rfl rfl rfl) ?_
 rintro _ ⟨_, _, _, ⟨v2, rfl, rfl, rfl⟩, rfl⟩
 refine Tops_step rfl (OpT_move rfl rfl rfl rfl) ?_
 refine Tops_step rfl (OpT_extract rfl rfl rfl rfl rfl) ?_
 refine Tops_step rfl (OpT_extract rfl rfl rfl rfl rfl) ?_
 refine Tops_step rfl (OpT_assign rfl rfl rfl rfl) ?_
 refine Tops_step rfl (OpT_assign rfl rfl rfl rfl) ?_
 refine Tops_nil (Tk_wkS (fr' := [(1, some (v2)), (2, some (vI new1.2))]) (own' := [some (optR 76 RegionS u8S true gmem_Mem.l gmem_Mem.b v2 new1.1)]) (shr' := []) [1, 2] [1] [] rfl rfl rfl rfl ?_)
 rcases onO_cases h with ⟨ho1, h⟩ | ⟨mem1, ho1, h⟩
 ·cases h
 ·refine Tk_optS (i := 0) rfl ho1 ?_
  rintro b1 v3 v4 vs1 rfl
  refine Tk_seq (Tk_region ?_)
  obtain ⟨queue1, hx3, h⟩ := ob_e h
  refine Tops_exP rfl (OpT_call (w_cons_Queue hx3) [] [] rfl rfl rfl rfl rfl callee10 rfl rfl rfl rfl) ?_
  rintro _ ⟨_, _, _, ⟨rfl, rfl, rfl⟩, rfl⟩
  refine Tops_step rfl (OpT_move rfl rfl rfl rfl) ?_
  refine Tops_step rfl (OpT_extract rfl rfl rfl rfl rfl) ?_
  refine Tops_step rfl (OpT_extract rfl rfl rfl rfl rfl) ?_
  refine Tops_step rfl (OpT_assign rfl rfl rfl rfl) ?_
  refine Tops_step rfl (OpT_assign rfl rfl rfl rfl) ?_
  refine Tops_nil (Tk_wkS (fr' := [(1, some (.pointer (some ⟨b1, 0, none⟩))), (2, some (vI new1.2)), (3, some (vI queue1.1)), (4, some (vI queue1.2))]) (own' := [some (cellsR b1 76 [v3, v4]), some (rowsX u8S true v4 vs1 mem1.b none)]) (shr' := [Fact.sl RegionS v3 mem1.l]) [1, 2, 3, 4] [0, 1] [0] rfl rfl rfl rfl ?_)
  refine Tk_seq (Tk_region ?_)
  obtain ⟨queue2, hx4, h⟩ := ob_e h
  refine Tops_exP rfl (OpT_call (w_cons_Queue hx4) [] [] rfl rfl rfl rfl rfl callee10 rfl rfl rfl rfl) ?_
  rintro _ ⟨_, _, _, ⟨rfl, rfl, rfl⟩, rfl⟩
  refine Tops_step rfl (OpT_move rfl rfl rfl rfl) ?_
  refine Tops_step rfl (OpT_extract rfl rfl rfl rfl rfl) ?_
  refine Tops_step rfl (OpT_extract rfl rfl rfl rfl rfl) ?_
  refine Tops_step rfl (OpT_assign rfl rfl rfl rfl) ?_
  refine Tops_step rfl (OpT_assign rfl rfl rfl rfl) ?_
  refine Tops_nil (Tk_wkS (fr' := [(1, some (.pointer (some ⟨b1, 0, none⟩))), (2, some (vI new1.2)), (3, some (vI queue1.1)), (4, some (vI queue1.2)), (5, some (vI queue2.1)), (6, some (vI queue2.2))]) (own' := [some (cellsR b1 76 [v3, v4]), some (rowsX u8S true v4 vs1 mem1.b none)]) (shr' := [Fact.sl RegionS v3 mem1.l]) [1, 2, 3, 4, 5, 6] [0, 1] [0] rfl rfl rfl rfl ?_)
  refine Tk_seq (Tk_region ?_)
  obtain ⟨queue3, hx5, h⟩ := ob_e h
  refine Tops_exP rfl (OpT_call (w_cons_Queue hx5) [] [] rfl rfl rfl rfl rfl callee10 rfl rfl rfl rfl) ?_
  rintro _ ⟨_, _, _, ⟨rfl, rfl, rfl⟩, rfl⟩
  refine Tops_step rfl (OpT_move rfl rfl rfl rfl) ?_
  refine Tops_step rfl (OpT_extract rfl rfl rfl rfl rfl) ?_
  refine Tops_step rfl (OpT_extract rfl rfl rfl rfl rfl) ?_
  refine Tops_step rfl (OpT_assign rfl rfl rfl rfl) ?_
  refine Tops_step rfl (OpT_assign rfl rfl rfl rfl) ?_
  refine Tops_nil (Tk_wkS (fr' := [(1, some (.pointer (some ⟨b1, 0, none⟩))), (2, some (vI new1.2)), (3, some (vI queue1.1)), (4, some (vI queue1.2)), (5, some (vI queue2.1)), (6, some (vI queue2.2)), (7, some (vI queue3.1)), (8, some (vI queue3.2))]) (own' := [some (cellsR b1 76 [v3, v4]), some (rowsX u8S true v4 vs1 mem1.b none)]) (shr' := [Fact.sl RegionS v3 mem1.l]) [1, 2, 3, 4, 5, 6, 7, 8] [0, 1] [0] rfl rfl rfl rfl ?_)
  refine Tk_seq (Tk_seq (Tk_region (Tops_step rfl (OpT_move rfl rfl rfl rfl) ?_)))
  refine Tops_step rfl (OpT_bin rfl rfl rfl rfl rfl (bin_neq_i (a := new1.2) (b := (0 : Int)))) ?_
  refine Tops_step rfl (OpT_move rfl rfl rfl rfl) ?_
  rcases Bool.eq_false_or_eq_true (new1.2 != (0 : Int)) with hg1 | hg1
  ·replace h := br_t hg1 h
   refine Tops_no rfl rfl (congrArg (fun b => some (Value.bool b)) hg1) rfl rfl ?_
   refine Tops_no rfl rfl (congrArg (fun b => some (Value.bool b)) hg1) rfl rfl ?_
   refine Tops_step rfl (OpT_pickT rfl rfl rfl (congrArg (fun b => some (Value.bool b)) hg1) rfl) ?_
   refine Tops_step rfl (OpT_move rfl rfl rfl rfl) ?_
   refine Tops_no rfl rfl rfl rfl rfl ?_
   refine Tops_no rfl rfl rfl rfl rfl ?_
   refine Tops_step rfl (OpT_pickT rfl rfl rfl rfl rfl) ?_
   refine Tops_step rfl (OpT_move rfl rfl rfl rfl) ?_
   refine Tops_no rfl rfl rfl rfl rfl ?_
   refine Tops_no rfl rfl rfl rfl rfl ?_
   refine Tops_step rfl (OpT_pickT rfl rfl rfl rfl rfl) ?_
   refine Tops_nil (Tk_wkS (fr' := [(1, some (.pointer (some ⟨b1, 0, none⟩))), (3, some (vI queue1.1)), (5, some (vI queue2.1)), (7, some (vI queue3.1)), (44, some (vB true))]) (own' := [some (cellsR b1 76 [v3, v4]), some (rowsX u8S true v4 vs1 mem1.b none)]) (shr' := [Fact.sl RegionS v3 mem1.l]) [1, 3, 5, 7, 44] [0, 1] [0] rfl rfl rfl rfl ?_)
   refine Tk_condT rfl ?_
   refine Tk_seq (Tk_region (Tops_step rfl (OpT_assign rfl rfl rfl rfl) ?_))
   refine Tops_nil (Tk_wkS (fr' := [(0, some (vB false))]) (own' := []) (shr' := []) [0] [] [] rfl rfl rfl rfl ?_)
   obtain rfl := Option.some.inj h
   exact Tk_retV rfl rfl (resA (vs := [vB false]) rfl ⟨rfl, trivial⟩) [] [] rfl rfl rfl ⟨rfl, rfl, rfl⟩
  ·replace h := br_f hg1 h
   refine Tops_yes rfl rfl (congrArg (fun b => some (Value.bool b)) hg1) (OpT_move rfl rfl rfl rfl) ?_
   rintro _ rfl
   refine Tops_yes rfl rfl (congrArg (fun b => some (Value.bool b)) hg1) (OpT_bin rfl rfl rfl rfl rfl (bin_neq_i (a := queue1.2) (b := (0 : Int)))) ?_
   rintro _ rfl
   refine Tops_step rfl (OpT_pickF rfl rfl rfl (congrArg (fun b => some (Value.bool b)) hg1) rfl) ?_
   refine Tops_step rfl (OpT_move rfl rfl rfl rfl) ?_
   rcases Bool.eq_false_or_eq_true (queue1.2 != (0 : Int)) with hg2 | hg2
   ·replace h := br_t hg2 h
    refine Tops_no rfl rfl (congrArg (fun b => some (Value.bool b)) hg2) rfl rfl ?_
    refine Tops_no rfl rfl (congrArg (fun b => some (Value.bool b)) hg2) rfl rfl ?_
    refine Tops_step rfl (OpT_pickT rfl rfl rfl (congrArg (fun b => some (Value.bool b)) hg2) rfl) ?_
    refine Tops_step rfl (OpT_move rfl rfl rfl rfl) ?_
    refine Tops_no rfl rfl rfl rfl rfl ?_
    refine Tops_no rfl rfl rfl rfl rfl ?_
    refine Tops_step rfl (OpT_pickT rfl rfl rfl rfl rfl) ?_
    refine Tops_nil (Tk_wkS (fr' := [(1, some (.pointer (some ⟨b1, 0, none⟩))), (3, some (vI queue1.1)), (5, some (vI queue2.1)), (7, some (vI queue3.1)), (44, some (vB true))]) (own' := [some (cellsR b1 76 [v3, v4]), some (rowsX u8S true v4 vs1 mem1.b none)]) (shr' := [Fact.sl RegionS v3 mem1.l]) [1, 3, 5, 7, 44] [0, 1] [0] rfl rfl rfl rfl ?_)
    refine Tk_condT rfl ?_
    refine Tk_seq (Tk_region (Tops_step rfl (OpT_assign rfl rfl rfl rfl) ?_))
    refine Tops_nil (Tk_wkS (fr' := [(0, some (vB false))]) (own' := []) (shr' := []) [0] [] [] rfl rfl rfl rfl ?_)
    obtain rfl := Option.some.inj h
    exact Tk_retV rfl rfl (resA (vs := [vB false]) rfl ⟨rfl, trivial⟩) [] [] rfl rfl rfl ⟨rfl, rfl, rfl⟩
   ·replace h := br_f hg2 h
    refine Tops_yes rfl rfl (congrArg (fun b => some (Value.bool b)) hg2) (OpT_move rfl rfl rfl rfl) ?_
    rintro _ rfl
    refine Tops_yes rfl rfl (congrArg (fun b => some (Value.bool b)) hg2) (OpT_bin rfl rfl rfl rfl rfl (bin_neq_i (a := queue2.2) (b := (0 : Int)))) ?_
    rintro _ rfl
    refine Tops_step rfl (OpT_pickF rfl rfl rfl (congrArg (fun b => some (Value.bool b)) hg2) rfl) ?_
    refine Tops_step rfl (OpT_move rfl rfl rfl rfl) ?_
    rcases Bool.eq_false_or_eq_true (queue2.2 != (0 : Int)) with hg3 | hg3
    ·replace h := br_t hg3 h
     refine Tops_no rfl rfl (congrArg (fun b => some (Value.bool b)) hg3) rfl rfl ?_
     refine Tops_no rfl rfl (congrArg (fun b => some (Value.bool b)) hg3) rfl rfl ?_
     refine Tops_step rfl (OpT_pickT rfl rfl rfl (congrArg (fun b => some (Value.bool b)) hg3) rfl) ?_
     refine Tops_nil (Tk_wkS (fr' := [(1, some (.pointer (some ⟨b1, 0, none⟩))), (3, some (vI queue1.1)), (5, some (vI queue2.1)), (7, some (vI queue3.1)), (44, some (vB true))]) (own' := [some (cellsR b1 76 [v3, v4]), some (rowsX u8S true v4 vs1 mem1.b none)]) (shr' := [Fact.sl RegionS v3 mem1.l]) [1, 3, 5, 7, 44] [0, 1] [0] rfl rfl rfl rfl ?_)
     refine Tk_condT rfl ?_
     refine Tk_seq (Tk_region (Tops_step rfl (OpT_assign rfl rfl rfl rfl) ?_))
     refine Tops_nil (Tk_wkS (fr' := [(0, some (vB false))]) (own' := []) (shr' := []) [0] [] [] rfl rfl rfl rfl ?_)
     obtain rfl := Option.some.inj h
     exact Tk_retV rfl rfl (resA (vs := [vB false]) rfl ⟨rfl, trivial⟩) [] [] rfl rfl rfl ⟨rfl, rfl, rfl⟩
    ·replace h := br_f hg3 h
     refine Tops_yes rfl rfl (congrArg (fun b => some (Value.bool b)) hg3) (OpT_move rfl rfl rfl rfl) ?_
     rintro _ rfl
     refine Tops_yes rfl rfl (congrArg (fun b => some (Value.bool b)) hg3) (OpT_bin rfl rfl rfl rfl rfl (bin_neq_i (a := queue3.2) (b := (0 : Int)))) ?_
     rintro _ rfl
     refine Tops_step rfl (OpT_pickF rfl rfl rfl (congrArg (fun b => some (Value.bool b)) hg3) rfl) ?_
     refine Tops_nil (Tk_wkS (fr' := [(1, some (.pointer (some ⟨b1, 0, none⟩))), (3, some (vI queue1.1)), (5, some (vI queue2.1)), (7, some (vI queue3.1)), (44, some (vB (queue3.2 != (0 : Int))))]) (own' := [some (cellsR b1 76 [v3, v4]), some (rowsX u8S true v4 vs1 mem1.b none)]) (shr' := [Fact.sl RegionS v3 mem1.l]) [1, 3, 5, 7, 44] [0, 1] [0] rfl rfl rfl rfl ?_)
     rcases Bool.eq_false_or_eq_true (queue3.2 != (0 : Int)) with hg4 | hg4
     ·replace h := br_t hg4 h
      refine Tk_condT (congrArg (fun b => some (Value.bool b)) hg4) ?_
      refine Tk_seq (Tk_region (Tops_step rfl (OpT_assign rfl rfl rfl rfl) ?_))
      refine Tops_nil (Tk_wkS (fr' := [(0, some (vB false))]) (own' := []) (shr' := []) [0] [] [] rfl rfl rfl rfl ?_)
      obtain rfl := Option.some.inj h
      exact Tk_retV rfl rfl (resA (vs := [vB false]) rfl ⟨rfl, trivial⟩) [] [] rfl rfl rfl ⟨rfl, rfl, rfl⟩
     ·replace h := br_f hg4 h
      refine Tk_condF (congrArg (fun b => some (Value.bool b)) hg4) ?_
      refine Tk_skip (Tk_seq (Tk_region (Tops_step rfl (OpT_build (v := .agg #[.slice none 0 0]) rfl rfl rfl rfl (bldV (by kernel_rfl))) ?_)))
      refine Tops_ex rfl (OpT_buildSlice (S := u8S) (xs := [(104 : UInt8), (101 : UInt8), (108 : UInt8), (108 : UInt8), (111 : UInt8)]) (css := [[vU8 (104 : UInt8)], [vU8 (101 : UInt8)], [vU8 (108 : UInt8)], [vU8 (108 : UInt8)], [vU8 (111 : UInt8)]]) (cs := [vU8 (104 : UInt8), vU8 (101 : UInt8), vU8 (108 : UInt8), vU8 (108 : UInt8), vU8 (111 : UInt8)]) (e := 5) rfl rfl rfl rfl (bldF slF30 (by decide) (by kernel_rfl)) rfl rfl rfl rfl (rel_plainD (S := u8S) (xs := [(104 : UInt8), (101 : UInt8), (108 : UInt8), (108 : UInt8), (111 : UInt8)]) (css := [[vU8 (104 : UInt8)], [vU8 (101 : UInt8)], [vU8 (108 : UInt8)], [vU8 (108 : UInt8)], [vU8 (111 : UInt8)]]) rfl rfl)) fun v5 => ?_
      refine Tops_step rfl (OpT_bytesC rfl rfl rfl rfl Try.underlying30 Try.underlying5 (i := 2) rfl rfl) ?_
      refine Tops_nilfact u8S ?_
      obtain ⟨put1, hx6, h⟩ := ob_e h
      refine Tops_exP rfl (OpT_call (w_cons_Put hx6) [] [2, 1] rfl rfl rfl rfl rfl callee21 rfl rfl rfl rfl) ?_
      rintro _ ⟨_, _, _, ⟨v6, rfl, rfl, rfl⟩, rfl⟩
      refine Tops_step rfl (OpT_move rfl rfl rfl rfl) ?_
      refine Tops_step rfl (OpT_extract rfl rfl rfl rfl rfl) ?_
      refine Tops_step rfl (OpT_extract rfl rfl rfl rfl rfl) ?_
      refine Tops_ex rfl (OpT_alloc rfl rfl rfl tyZ40) fun b2 => ?_
      refine Tops_step rfl (OpT_storeA1 (fun z0 => [z0]) (cs' := [v6]) rfl rfl rfl rfl tyF40 (i := 4) rfl (is_row (i := 3) rfl) (fun _ _ _ => rfl) rfl rfl rfl) ?_
      refine Tops_step rfl (OpT_assign rfl rfl rfl rfl) ?_
      refine Tops_nil (Tk_wkS (fr' := [(1, some (.pointer (some ⟨b1, 0, none⟩))), (3, some (vI queue1.1)), (5, some (vI queue2.1)), (7, some (vI queue3.1)), (9, some (.pointer (some ⟨b2, 0, none⟩))), (10, some (vI put1.2))]) (own' := [some (cellsR b1 76 [v3, v4]), some (rowsX u8S true v4 vs1 mem1.b none), some (rowS u8S v6 put1.1.Wait), some (cellsR b2 40 [v6])]) (shr' := [Fact.sl RegionS v3 mem1.l]) [1, 3, 5, 7, 9, 10] [0, 1, 3, 4] [0] rfl rfl rfl rfl ?_)
      refine Tk_seq (Tk_drawT (by kernel_rfl) ?_)
      refine TA_tb [0, 0, 0, 4, 15, 31, 63, 63, 63, 0, 639, 1791, 4095] (by kernel_rfl) fun htb => ?_
      refine TA_retire (i := 2) rfl ?_
      obtain ⟨rooms1, hx7, h⟩ := ob_e h
      obtain ⟨give1, hx8, h⟩ := ob_e h
      refine TA_seg (lo := 0) (hi := 12) htb rfl rfl (by kernel_rfl) (fun c L a w => ∃ (v7 : Value), ∃ (v8 : Value), ∃ (v9 : Value), ∃ (v10 : Value), ∃ (b3 : Nat), Sat c ⟨[(1, some (.pointer (some ⟨b1, 0, none⟩))), (3, some (vI queue1.1)), (5, some (vI queue2.1)), (7, some (vI queue3.1)), (9, some (.pointer (some ⟨b2, 0, none⟩))), (10, some (vI put1.2)), (53, bif L 0 then some (.pointer (some ⟨b1, 0, none⟩)) else none), (54, bif L 1 then some (.agg #[v6]) else none), (55, bif L 2 then some (v7) else none), (56, bif L 3 then some (v8) else none), (57, bif L 4 then some (.tuple #[.agg #[v9], v10, vI give1.2.2.1]) else none), (52, bif L 5 then some (.tuple #[.agg #[v9], v10, vI give1.2.2.1]) else none), (58, bif L 6 then some (.agg #[v9]) else none), (59, bif L 7 then some (v10) else none), (60, bif L 8 then some (vI give1.2.2.1) else none), (11, bif L 9 then some (.pointer (some ⟨b3, 0, none⟩)) else none), (12, bif L 11 then some (v10) else none)], [(some (cellsR b1 76 [v3, v4]) : Option Res), (bif L 4 then some (rowsX u8S true v4 vs1 give1.2.2.2 none) else some (rowsX u8S true v4 vs1 mem1.b none) : Option Res), (none : Option Res), (some (cellsR b2 40 [v6]) : Option Res), (none : Option Res), (bif L 4 then some (rowS u8S v9 give1.1.Wait) else none : Option Res), (bif L 10 then some (cellsR b3 40 [v9]) else bif L 9 then some (cellsR b3 40 [.slice none 0 0]) else none : Option Res)], [Fact.sl RegionS v3 mem1.l, Fact.sl u8S v6 put1.1.Wait, (bif L 2 then Fact.sl iS v7 [(2 : Int), (2 : Int), (2 : Int)] else Fact.tt), (bif L 3 then Fact.sl (Shape.slice SegS) v8 rooms1 else Fact.tt), (bif L 4 then Fact.sl u32S v10 give1.2.1 else Fact.tt)]⟩ a w) [([], [4, 5, 6, 7, 8, 10, 11]), ([], [4, 5, 6, 7, 8, 10, 11]), ([], [3, 4, 5, 6, 7, 8, 10, 11]), ([2], [4, 5, 6, 7, 8, 10, 11]), ([0, 1, 2, 3], [5, 6, 7, 8, 10, 11]), ([0, 1, 2, 3, 4], [6, 7, 8, 10, 11]), ([0, 1, 2, 3, 4, 5], [10, 11]), ([0, 1, 2, 3, 4, 5], [11]), ([0, 1, 2, 3, 4, 5], []), ([], [10, 11]), ([0, 1, 2, 3, 4, 5, 6, 9], [11]), ([0, 1, 2, 3, 4, 5, 6, 7, 9, 10], [])] rfl (by kernel_rfl) ?_ (steps_cons ?_ (steps_cons ?_ (steps_cons ?_ (steps_cons ?_ (steps_cons ?_ (steps_cons ?_ (steps_cons ?_ (steps_cons ?_ (steps_cons ?_ (steps_cons ?_ (steps_cons ?_ (steps_cons ?_ (steps_nil))))))))))))) ?_
      ·intro a w hs
       exact ⟨undef, undef, undef, undef, 0, hs.startF [53, 54, 55, 56, 57, 52, 58, 59, 60, 11, 12] [0, 1, 2, 3, 4, 5, 6] [0, 1, 2, 3, 4] rfl rfl rfl rfl⟩
      ·intro L a w hv K Q hK
       obtain ⟨v7, v8, v9, v10, b3, hs⟩ := hv
       refine wpOp_go rfl rfl hs (OpT_move rfl rfl rfl rfl) ?_
       rintro _ rfl a' w' hs'
       exact hK a' w' ⟨v7, v8, v9, v10, b3, hs'.putF (i := 6) rfl [0, 1, 2, 3, 4, 5, 6] [0, 1, 2, 3, 4] rfl rfl rfl rfl⟩
      ·intro L a w hv K Q hK
       obtain ⟨v7, v8, v9, v10, b3, hs⟩ := hv
       refine wpOp_go rfl rfl hs (OpT_loadCA (vs := [v6]) rfl rfl rfl rfl tyF40 (i := 3) rfl rfl rfl) ?_
       rintro _ rfl a' w' hs'
       exact hK a' w' ⟨v7, v8, v9, v10, b3, hs'.putF (i := 7) rfl [0, 1, 2, 3, 4, 5, 6] [0, 1, 2, 3, 4] rfl rfl rfl rfl⟩
      ·intro L a w hv K Q hK
       obtain ⟨v7, v8, v9, v10, b3, hs⟩ := hv
       refine wpOp_go rfl rfl hs (OpT_buildSlice (S := iS) (xs := [(2 : Int), (2 : Int), (2 : Int)]) (css := [[vI (2 : Int)], [vI (2 : Int)], [vI (2 : Int)]]) (cs := [vI (2 : Int), vI (2 : Int), vI (2 : Int)]) (e := 3) rfl rfl rfl rfl (bldF slF31 (by decide) (by kernel_rfl)) rfl rfl rfl rfl (rel_plainD (S := iS) (xs := [(2 : Int), (2 : Int), (2 : Int)]) (css := [[vI (2 : Int)], [vI (2 : Int)], [vI (2 : Int)]]) rfl rfl)) ?_
       rintro _ ⟨v7', rfl⟩ a' w' hs'
       replace hs' := hs'.ret (i := 7) rfl
       exact hK a' w' ⟨v7', v8, v9, v10, b3, hs'.putF (i := 8) rfl [0, 1, 2, 3, 7, 5, 6] [0, 1, 5, 3, 4] rfl rfl rfl rfl⟩
      ·intro L a w hv K Q hK
       obtain ⟨v7, v8, v9, v10, b3, hs⟩ := hv
       refine wpOp_go rfl rfl hs (OpT_call (ws_law28zrooms hx7) [] [2] rfl rfl rfl rfl rfl callee17 rfl rfl rfl rfl) ?_
       rintro _ ⟨v8', _, _, ⟨_, rfl, rfl, rfl⟩, rfl⟩ a' w' hs'
       exact hK a' w' ⟨v7, v8', v9, v10, b3, hs'.putF (i := 9) rfl [0, 1, 2, 3, 4, 5, 6] [0, 1, 2, 5, 4] rfl rfl rfl rfl⟩
      ·intro L a w hv K Q hK
       obtain ⟨v7, v8, v9, v10, b3, hs⟩ := hv
       refine wpOp_go rfl rfl hs (OpT_callP [7, 8, 2, 3, 4, 5, 6, 9] (w_cons_Give hx8) [0, 1] [0, 1, 3] rfl rfl rfl rfl rfl callee15 rfl rfl rfl rfl rfl) ?_
       rintro _ ⟨_, _, _, ⟨v9', v10', rfl, rfl, rfl⟩, rfl⟩ a' w' hs'
       exact hK a' w' ⟨v7, v8, v9', v10', b3, hs'.putF (i := 10) rfl [0, 1, 2, 3, 4, 7, 6] [0, 1, 2, 3, 5] rfl rfl rfl rfl⟩
      ·intro L a w hv K Q hK
       obtain ⟨v7, v8, v9, v10, b3, hs⟩ := hv
       refine wpOp_go rfl rfl hs (OpT_move rfl rfl rfl rfl) ?_
       rintro _ rfl a' w' hs'
       exact hK a' w' ⟨v7, v8, v9, v10, b3, hs'.putF (i := 11) rfl [0, 1, 2, 3, 4, 5, 6] [0, 1, 2, 3, 4] rfl rfl rfl rfl⟩
      ·intro L a w hv K Q hK
       obtain ⟨v7, v8, v9, v10, b3, hs⟩ := hv
       refine wpOp_go rfl rfl hs (OpT_extract rfl rfl rfl rfl rfl) ?_
       rintro _ rfl a' w' hs'
       exact hK a' w' ⟨v7, v8, v9, v10, b3, hs'.putF (i := 12) rfl [0, 1, 2, 3, 4, 5, 6] [0, 1, 2, 3, 4] rfl rfl rfl rfl⟩
      ·intro L a w hv K Q hK
       obtain ⟨v7, v8, v9, v10, b3, hs⟩ := hv
       refine wpOp_go rfl rfl hs (OpT_extract rfl rfl rfl rfl rfl) ?_
       rintro _ rfl a' w' hs'
       exact hK a' w' ⟨v7, v8, v9, v10, b3, hs'.putF (i := 13) rfl [0, 1, 2, 3, 4, 5, 6] [0, 1, 2, 3, 4] rfl rfl rfl rfl⟩
      ·intro L a w hv K Q hK
       obtain ⟨v7, v8, v9, v10, b3, hs⟩ := hv
       refine wpOp_go rfl rfl hs (OpT_extract rfl rfl rfl rfl rfl) ?_
       rintro _ rfl a' w' hs'
       exact hK a' w' ⟨v7, v8, v9, v10, b3, hs'.putF (i := 14) rfl [0, 1, 2, 3, 4, 5, 6] [0, 1, 2, 3, 4] rfl rfl rfl rfl⟩
      ·intro L a w hv K Q hK
       obtain ⟨v7, v8, v9, v10, b3, hs⟩ := hv
       refine wpOp_go rfl rfl hs (OpT_alloc rfl rfl rfl tyZ40) ?_
       rintro _ ⟨b3', rfl⟩ a' w' hs'
       exact hK a' w' ⟨v7, v8, v9, v10, b3', hs'.putF (i := 15) rfl [0, 1, 2, 3, 4, 5, 7] [0, 1, 2, 3, 4] rfl rfl rfl rfl⟩
      ·intro L a w hv K Q hK
       obtain ⟨v7, v8, v9, v10, b3, hs⟩ := hv
       refine wpOp_go rfl rfl hs (OpT_storeA1 (fun z0 => [z0]) (cs' := [v9]) rfl rfl rfl rfl tyF40 (i := 6) rfl (is_row (i := 5) rfl) (fun _ _ _ => rfl) rfl rfl rfl) ?_
       rintro _ rfl a' w' hs'
       exact hK a' w' ⟨v7, v8, v9, v10, b3, hs'.sameF [0, 1, 2, 3, 4, 5, 6] [0, 1, 2, 3, 4] rfl rfl rfl rfl⟩
      ·intro L a w hv K Q hK
       obtain ⟨v7, v8, v9, v10, b3, hs⟩ := hv
       refine wpOp_go rfl rfl hs (OpT_assign rfl rfl rfl rfl) ?_
       rintro _ rfl a' w' hs'
       exact hK a' w' ⟨v7, v8, v9, v10, b3, hs'.putF (i := 16) rfl [0, 1, 2, 3, 4, 5, 6] [0, 1, 2, 3, 4] rfl rfl rfl rfl⟩
      ·intro L a w hL hv
       rw [allTrue hL] at hv
       obtain ⟨v7, v8, v9, v10, b3, hs⟩ := hv
       refine (show TA _ _ _ 12 ⟨[(3, some (vI queue1.1)), (5, some (vI queue2.1)), (7, some (vI queue3.1)), (10, some (vI put1.2)), (60, some (vI give1.2.2.1)), (11, some (.pointer (some ⟨b3, 0, none⟩))), (12, some (v10))], [some (rowS u8S v9 give1.1.Wait), some (cellsR b3 40 [v9])], [Fact.sl u32S v10 give1.2.1]⟩ from ?_) a w (hs.wkS [3, 5, 7, 10, 60, 11, 12] [5, 6] [4] rfl rfl rfl rfl)
       clear hs hL
       refine TA_step htb (by kernel_rfl) rfl rfl (OpT_assign rfl rfl rfl rfl) ?_
       refine TA_end rfl ?_
       refine Tk_wkS (fr' := [(3, some (vI queue1.1)), (5, some (vI queue2.1)), (7, some (vI queue3.1)), (10, some (vI put1.2)), (11, some (.pointer (some ⟨b3, 0, none⟩))), (12, some (v10)), (13, some (vI give1.2.2.1))]) (own' := [some (rowS u8S v9 give1.1.Wait), some (cellsR b3 40 [v9])]) (shr' := [Fact.sl u32S v10 give1.2.1]) [3, 5, 7, 10, 11, 12, 13] [0, 1] [0] rfl rfl rfl rfl ?_
       refine Tk_seq (Tk_region (Tops_step rfl (OpT_move rfl rfl rfl rfl) ?_))
       refine Tops_step rfl (OpT_bin rfl rfl rfl rfl rfl (bin_eql_i (a := queue1.1) (b := (0 : Int)))) ?_
       refine Tops_step rfl (OpT_move rfl rfl rfl rfl) ?_
       rcases Bool.eq_false_or_eq_true (queue1.1 == (0 : Int)) with hg5 | hg5
       ·replace h := br_t hg5 h
        refine Tops_yes rfl rfl (congrArg (fun b => some (Value.bool b)) hg5) (OpT_move rfl rfl rfl rfl) ?_
        rintro _ rfl
        refine Tops_yes rfl rfl (congrArg (fun b => some (Value.bool b)) hg5) (OpT_bin rfl rfl rfl rfl rfl (bin_eql_i (a := queue2.1) (b := (1 : Int)))) ?_
        rintro _ rfl
        refine Tops_step rfl (OpT_pickT rfl rfl rfl (congrArg (fun b => some (Value.bool b)) hg5) rfl) ?_
        refine Tops_step rfl (OpT_move rfl rfl rfl rfl) ?_
        rcases Bool.eq_false_or_eq_true (queue2.1 == (1 : Int)) with hg6 | hg6
        ·replace h := br_t hg6 h
         refine Tops_yes rfl rfl (congrArg (fun b => some (Value.bool b)) hg6) (OpT_move rfl rfl rfl rfl) ?_
         rintro _ rfl
         refine Tops_yes rfl rfl (congrArg (fun b => some (Value.bool b)) hg6) (OpT_bin rfl rfl rfl rfl rfl (bin_eql_i (a := queue3.1) (b := (8 : Int)))) ?_
         rintro _ rfl
         refine Tops_step rfl (OpT_pickT rfl rfl rfl (congrArg (fun b => some (Value.bool b)) hg6) rfl) ?_
         refine Tops_step rfl (OpT_move rfl rfl rfl rfl) ?_
         rcases Bool.eq_false_or_eq_true (queue3.1 == (8 : Int)) with hg7 | hg7
         ·replace h := br_t hg7 h
          refine Tops_yes rfl rfl (congrArg (fun b => some (Value.bool b)) hg7) (OpT_move rfl rfl rfl rfl) ?_
          rintro _ rfl
          refine Tops_yes rfl rfl (congrArg (fun b => some (Value.bool b)) hg7) (OpT_bin rfl rfl rfl rfl rfl (bin_eql_i (a := put1.2) (b := (5 : Int)))) ?_
          rintro _ rfl
          refine Tops_step rfl (OpT_pickT rfl rfl rfl (congrArg (fun b => some (Value.bool b)) hg7) rfl) ?_
          refine Tops_step rfl (OpT_move rfl rfl rfl rfl) ?_
          rcases Bool.eq_false_or_eq_true (put1.2 == (5 : Int)) with hg8 | hg8
          ·replace h := br_t hg8 h
           refine Tops_yes rfl rfl (congrArg (fun b => some (Value.bool b)) hg8) (OpT_move rfl rfl rfl rfl) ?_
           rintro _ rfl
           refine Tops_yes rfl rfl (congrArg (fun b => some (Value.bool b)) hg8) (OpT_bin rfl rfl rfl rfl rfl (bin_eql_i (a := give1.2.2.1) (b := (0 : Int)))) ?_
           rintro _ rfl
           refine Tops_step rfl (OpT_pickT rfl rfl rfl (congrArg (fun b => some (Value.bool b)) hg8) rfl) ?_
           refine Tops_step rfl (OpT_move rfl rfl rfl rfl) ?_
           rcases Bool.eq_false_or_eq_true (give1.2.2.1 == (0 : Int)) with hg9 | hg9
           ·replace h := br_t hg9 h
            refine Tops_yes rfl rfl (congrArg (fun b => some (Value.bool b)) hg9) (OpT_fieldC rfl rfl rfl rfl fldF40x0) ?_
            rintro _ rfl
            refine Tops_yes rfl rfl (congrArg (fun b => some (Value.bool b)) hg9) (OpT_loadC rfl rfl rfl rfl tyF30 (i := 1) rfl rfl) ?_
            rintro _ rfl
            refine Tops_yes rfl rfl (congrArg (fun b => some (Value.bool b)) hg9) (OpT_lenO rfl rfl rfl rfl Try.underlying30 (i := 0) rfl) ?_
            rintro _ rfl
            refine Tops_yes rfl rfl (congrArg (fun b => some (Value.bool b)) hg9) (OpT_bin rfl rfl rfl rfl rfl (bin_eql_i (a := len give1.1.Wait) (b := (0 : Int)))) ?_
            rintro _ rfl
            refine Tops_step rfl (OpT_pickT rfl rfl rfl (congrArg (fun b => some (Value.bool b)) hg9) rfl) ?_
            refine Tops_step rfl (OpT_move rfl rfl rfl rfl) ?_
            rcases Bool.eq_false_or_eq_true ((len give1.1.Wait) == (0 : Int)) with hg10 | hg10
            ·replace h := br_t hg10 h
             refine Tops_yes rfl rfl (congrArg (fun b => some (Value.bool b)) hg10) (OpT_move rfl rfl rfl rfl) ?_
             rintro _ rfl
             refine Tops_yes rfl rfl (congrArg (fun b => some (Value.bool b)) hg10) (OpT_buildSlice (S := u32S) (xs := [(2 : UInt32), (2 : UInt32), (1 : UInt32)]) (css := [[vU32 (2 : UInt32)], [vU32 (2 : UInt32)], [vU32 (1 : UInt32)]]) (cs := [vU32 (2 : UInt32), vU32 (2 : UInt32), vU32 (1 : UInt32)]) (e := 50) rfl rfl rfl rfl (bldF slF41 (by decide) (by kernel_rfl)) rfl rfl rfl rfl (rel_plainD (S := u32S) (xs := [(2 : UInt32), (2 : UInt32), (1 : UInt32)]) (css := [[vU32 (2 : UInt32)], [vU32 (2 : UInt32)], [vU32 (1 : UInt32)]]) rfl rfl)) ?_
             rintro _ ⟨v11, rfl⟩
             obtain ⟨words1, hx9, h⟩ := ob_e h
             refine Tops_yes rfl rfl (congrArg (fun b => some (Value.bool b)) hg10) (OpT_callB [2] [0, 1, 2] (w_kit_Words hx9) [] rfl rfl rfl rfl rfl callee20 rfl rfl rfl rfl rfl rfl (bor_cons (bor_shr 0 rfl) (bor_cons (bor_row 2 rfl rfl) bor_nil)) (by rintro _ _ _ ⟨rfl, rfl, rfl⟩; exact ⟨rfl, ri_nil⟩)) ?_
             rintro _ ⟨_, _, _, ⟨rfl, rfl, rfl⟩, rfl⟩
             refine Tops_step rfl (OpT_pickT rfl rfl rfl (congrArg (fun b => some (Value.bool b)) hg10) rfl) ?_
             refine Tops_step rfl (OpT_assign rfl rfl rfl rfl) ?_
             refine Tops_nil (Tk_wkS (fr' := [(0, some (vB words1))]) (own' := []) (shr' := []) [0] [] [] rfl rfl rfl rfl ?_)
             obtain rfl := Option.some.inj h
             exact Tk_retV rfl rfl (resA (vs := [vB words1]) rfl ⟨rfl, trivial⟩) [] [] rfl rfl rfl ⟨rfl, rfl, rfl⟩
            ·replace h := br_f hg10 h
             refine Tops_no rfl rfl (congrArg (fun b => some (Value.bool b)) hg10) rfl rfl ?_
             refine Tops_no rfl rfl (congrArg (fun b => some (Value.bool b)) hg10) rfl rfl ?_
             refine Tops_no rfl rfl (congrArg (fun b => some (Value.bool b)) hg10) rfl rfl ?_
             refine Tops_step rfl (OpT_pickF rfl rfl rfl (congrArg (fun b => some (Value.bool b)) hg10) rfl) ?_
             refine Tops_step rfl (OpT_assign rfl rfl rfl rfl) ?_
             refine Tops_nil (Tk_wkS (fr' := [(0, some (vB false))]) (own' := []) (shr' := []) [0] [] [] rfl rfl rfl rfl ?_)
             obtain rfl := Option.some.inj h
             exact Tk_retV rfl rfl (resA (vs := [vB false]) rfl ⟨rfl, trivial⟩) [] [] rfl rfl rfl ⟨rfl, rfl, rfl⟩
           ·replace h := br_f hg9 h
            refine Tops_no rfl rfl (congrArg (fun b => some (Value.bool b)) hg9) rfl rfl ?_
            refine Tops_no rfl rfl (congrArg (fun b => some (Value.bool b)) hg9) rfl rfl ?_
            refine Tops_no rfl rfl (congrArg (fun b => some (Value.bool b)) hg9) rfl rfl ?_
            refine Tops_no rfl rfl (congrArg (fun b => some (Value.bool b)) hg9) rfl rfl ?_
            refine Tops_step rfl (OpT_pickF rfl rfl rfl (congrArg (fun b => some (Value.bool b)) hg9) rfl) ?_
            refine Tops_step rfl (OpT_move rfl rfl rfl rfl) ?_
            refine Tops_no rfl rfl rfl rfl rfl ?_
            refine Tops_no rfl rfl rfl rfl rfl ?_
            refine Tops_no rfl rfl rfl rfl rfl ?_
            refine Tops_step rfl (OpT_pickF rfl rfl rfl rfl rfl) ?_
            refine Tops_step rfl (OpT_assign rfl rfl rfl rfl) ?_
            refine Tops_nil (Tk_wkS (fr' := [(0, some (vB false))]) (own' := []) (shr' := []) [0] [] [] rfl rfl rfl rfl ?_)
            obtain rfl := Option.some.inj h
            exact Tk_retV rfl rfl (resA (vs := [vB false]) rfl ⟨rfl, trivial⟩) [] [] rfl rfl rfl ⟨rfl, rfl, rfl⟩
          ·replace h := br_f hg8 h
           refine Tops_no rfl rfl (congrArg (fun b => some (Value.bool b)) hg8) rfl rfl ?_
           refine Tops_no rfl rfl (congrArg (fun b => some (Value.bool b)) hg8) rfl rfl ?_
           refine Tops_step rfl (OpT_pickF rfl rfl rfl (congrArg (fun b => some (Value.bool b)) hg8) rfl) ?_
           refine Tops_step rfl (OpT_move rfl rfl rfl rfl) ?_
           refine Tops_no rfl rfl rfl rfl rfl ?_
           refine Tops_no rfl rfl rfl rfl rfl ?_
           refine Tops_no rfl rfl rfl rfl rfl ?_
           refine Tops_no rfl rfl rfl rfl rfl ?_
           refine Tops_step rfl (OpT_pickF rfl rfl rfl rfl rfl) ?_
           refine Tops_step rfl (OpT_move rfl rfl rfl rfl) ?_
           refine Tops_no rfl rfl rfl rfl rfl ?_
           refine Tops_no rfl rfl rfl rfl rfl ?_
           refine Tops_no rfl rfl rfl rfl rfl ?_
           refine Tops_step rfl (OpT_pickF rfl rfl rfl rfl rfl) ?_
           refine Tops_step rfl (OpT_assign rfl rfl rfl rfl) ?_
           refine Tops_nil (Tk_wkS (fr' := [(0, some (vB false))]) (own' := []) (shr' := []) [0] [] [] rfl rfl rfl rfl ?_)
           obtain rfl := Option.some.inj h
           exact Tk_retV rfl rfl (resA (vs := [vB false]) rfl ⟨rfl, trivial⟩) [] [] rfl rfl rfl ⟨rfl, rfl, rfl⟩
         ·replace h := br_f hg7 h
          refine Tops_no rfl rfl (congrArg (fun b => some (Value.bool b)) hg7) rfl rfl ?_
          refine Tops_no rfl rfl (congrArg (fun b => some (Value.bool b)) hg7) rfl rfl ?_
          refine Tops_step rfl (OpT_pickF rfl rfl rfl (congrArg (fun b => some (Value.bool b)) hg7) rfl) ?_
          refine Tops_step rfl (OpT_move rfl rfl rfl rfl) ?_
          refine Tops_no rfl rfl rfl rfl rfl ?_
          refine Tops_no rfl rfl rfl rfl rfl ?_
          refine Tops_step rfl (OpT_pickF rfl rfl rfl rfl rfl) ?_
          refine Tops_step rfl (OpT_move rfl rfl rfl rfl) ?_
          refine Tops_no rfl rfl rfl rfl rfl ?_
          refine Tops_no rfl rfl rfl rfl rfl ?_
          refine Tops_no rfl rfl rfl rfl rfl ?_
          refine Tops_no rfl rfl rfl rfl rfl ?_
          refine Tops_step rfl (OpT_pickF rfl rfl rfl rfl rfl) ?_
          refine Tops_step rfl (OpT_move rfl rfl rfl rfl) ?_
          refine Tops_no rfl rfl rfl rfl rfl ?_
          refine Tops_no rfl rfl rfl rfl rfl ?_
          refine Tops_no rfl rfl rfl rfl rfl ?_
          refine Tops_step rfl (OpT_pickF rfl rfl rfl rfl rfl) ?_
          refine Tops_step rfl (OpT_assign rfl rfl rfl rfl) ?_
          refine Tops_nil (Tk_wkS (fr' := [(0, some (vB false))]) (own' := []) (shr' := []) [0] [] [] rfl rfl rfl rfl ?_)
          obtain rfl := Option.some.inj h
          exact Tk_retV rfl rfl (resA (vs := [vB false]) rfl ⟨rfl, trivial⟩) [] [] rfl rfl rfl ⟨rfl, rfl, rfl⟩
        ·replace h := br_f hg6 h
         refine Tops_no rfl rfl (congrArg (fun b => some (Value.bool b)) hg6) rfl rfl ?_
         refine Tops_no rfl rfl (congrArg (fun b => some (Value.bool b)) hg6) rfl rfl ?_
         refine Tops_step rfl (OpT_pickF rfl rfl rfl (congrArg (fun b => some (Value.bool b)) hg6) rfl) ?_
         refine Tops_step rfl (OpT_move rfl rfl rfl rfl) ?_
         refine Tops_no rfl rfl rfl rfl rfl ?_
         refine Tops_no rfl rfl rfl rfl rfl ?_
         refine Tops_step rfl (OpT_pickF rfl rfl rfl rfl rfl) ?_
         refine Tops_step rfl (OpT_move rfl rfl rfl rfl) ?_
         refine Tops_no rfl rfl rfl rfl rfl ?_
         refine Tops_no rfl rfl rfl rfl rfl ?_
         refine Tops_step rfl (OpT_pickF rfl rfl rfl rfl rfl) ?_
         refine Tops_step rfl (OpT_move rfl rfl rfl rfl) ?_
         refine Tops_no rfl rfl rfl rfl rfl ?_
         refine Tops_no rfl rfl rfl rfl rfl ?_
         refine Tops_no rfl rfl rfl rfl rfl ?_
         refine Tops_no rfl rfl rfl rfl rfl ?_
         refine Tops_step rfl (OpT_pickF rfl rfl rfl rfl rfl) ?_
         refine Tops_step rfl (OpT_move rfl rfl rfl rfl) ?_
         refine Tops_no rfl rfl rfl rfl rfl ?_
         refine Tops_no rfl rfl rfl rfl rfl ?_
         refine Tops_no rfl rfl rfl rfl rfl ?_
         refine Tops_step rfl (OpT_pickF rfl rfl rfl rfl rfl) ?_
         refine Tops_step rfl (OpT_assign rfl rfl rfl rfl) ?_
         refine Tops_nil (Tk_wkS (fr' := [(0, some (vB false))]) (own' := []) (shr' := []) [0] [] [] rfl rfl rfl rfl ?_)
         obtain rfl := Option.some.inj h
         exact Tk_retV rfl rfl (resA (vs := [vB false]) rfl ⟨rfl, trivial⟩) [] [] rfl rfl rfl ⟨rfl, rfl, rfl⟩
       ·replace h := br_f hg5 h
        refine Tops_no rfl rfl (congrArg (fun b => some (Value.bool b)) hg5) rfl rfl ?_
        refine Tops_no rfl rfl (congrArg (fun b => some (Value.bool b)) hg5) rfl rfl ?_
        refine Tops_step rfl (OpT_pickF rfl rfl rfl (congrArg (fun b => some (Value.bool b)) hg5) rfl) ?_
        refine Tops_step rfl (OpT_move rfl rfl rfl rfl) ?_
        refine Tops_no rfl rfl rfl rfl rfl ?_
        refine Tops_no rfl rfl rfl rfl rfl ?_
        refine Tops_step rfl (OpT_pickF rfl rfl rfl rfl rfl) ?_
        refine Tops_step rfl (OpT_move rfl rfl rfl rfl) ?_
        refine Tops_no rfl rfl rfl rfl rfl ?_
        refine Tops_no rfl rfl rfl rfl rfl ?_
        refine Tops_step rfl (OpT_pickF rfl rfl rfl rfl rfl) ?_
        refine Tops_step rfl (OpT_move rfl rfl rfl rfl) ?_
        refine Tops_no rfl rfl rfl rfl rfl ?_
        refine Tops_no rfl rfl rfl rfl rfl ?_
        refine Tops_step rfl (OpT_pickF rfl rfl rfl rfl rfl) ?_
        refine Tops_step rfl (OpT_move rfl rfl rfl rfl) ?_
        refine Tops_no rfl rfl rfl rfl rfl ?_
        refine Tops_no rfl rfl rfl rfl rfl ?_
        refine Tops_no rfl rfl rfl rfl rfl ?_
        refine Tops_no rfl rfl rfl rfl rfl ?_
        refine Tops_step rfl (OpT_pickF rfl rfl rfl rfl rfl) ?_
        refine Tops_step rfl (OpT_move rfl rfl rfl rfl) ?_
        refine Tops_no rfl rfl rfl rfl rfl ?_
        refine Tops_no rfl rfl rfl rfl rfl ?_
        refine Tops_no rfl rfl rfl rfl rfl ?_
        refine Tops_step rfl (OpT_pickF rfl rfl rfl rfl rfl) ?_
        refine Tops_step rfl (OpT_assign rfl rfl rfl rfl) ?_
        refine Tops_nil (Tk_wkS (fr' := [(0, some (vB false))]) (own' := []) (shr' := []) [0] [] [] rfl rfl rfl rfl ?_)
        obtain rfl := Option.some.inj h
        exact Tk_retV rfl rfl (resA (vs := [vB false]) rfl ⟨rfl, trivial⟩) [] [] rfl rfl rfl ⟨rfl, rfl, rfl⟩

set_option maxRecDepth 100000 in
set_option maxHeartbeats 4000000 in
theorem w_kit_Pick {np0 : Int} {m : Int} {r : Int} (h : kit_Pick np0 m = some r) :
  Ctr Try.prog 9 #[vI np0, vI m] [] []
   (fun rv own shr => rv = vI r ∧ own = [] ∧ shr = []) := by
 unfold kit_Pick at h
 refine Ctr.mk (args := [vI np0, vI m]) Try.func9 rfl rfl (fun R0 w0 B => ?_)
 refine Tk_seq (Tk_region (Tops_step rfl (OpT_assign rfl rfl rfl rfl) ?_))
 refine Tops_nil (Tk_wkS (fr' := [(0, some (vI np0)), (1, some (vI m))]) (own' := []) (shr' := []) [0, 1] [] [] rfl rfl rfl rfl ?_)
 refine Tk_seq (Tk_seq (Tk_region (Tops_step rfl (OpT_move rfl rfl rfl rfl) ?_)))
 refine Tops_step rfl (OpT_bin rfl rfl rfl rfl rfl (bin_lss_i (a := m) (b := (1 : Int)))) ?_
 refine Tops_nil (Tk_wkS (fr' := [(0, some (vI np0)), (1, some (vI m)), (6, some (vB (decide (m < (1 : Int)))))]) (own' := []) (shr' := []) [0, 1, 6] [] [] rfl rfl rfl rfl ?_)
 rcases Bool.eq_false_or_eq_true (decide (m < (1 : Int))) with hg1 | hg1
 ·replace h := br_t hg1 h
  refine Tk_condT (congrArg (fun b => some (Value.bool b)) hg1) ?_
  refine Tk_seq (Tk_region (Tops_step rfl (OpT_assign rfl rfl rfl rfl) ?_))
  refine Tops_nil (Tk_wkS (fr' := [(4, some (vI (0 : Int)))]) (own' := []) (shr' := []) [4] [] [] rfl rfl rfl rfl ?_)
  obtain rfl := Option.some.inj h
  exact Tk_retV rfl rfl (resA (vs := [vI (0 : Int)]) rfl ⟨rfl, trivial⟩) [] [] rfl rfl rfl ⟨rfl, rfl, rfl⟩
 ·replace h := br_f hg1 h
  refine Tk_condF (congrArg (fun b => some (Value.bool b)) hg1) ?_
  refine Tk_skip (Tk_seq (Tk_region (Tops_step rfl (OpT_move rfl rfl rfl rfl) ?_)))
  refine Tops_step rfl (OpT_move rfl rfl rfl rfl) ?_
  obtain ⟨hc1, h⟩ := chk_e h
  refine Tops_step rfl (OpT_bin rfl rfl rfl rfl rfl (bin_rem_i (a := np0) (b := m) (not_t hc1))) ?_
  refine Tops_step rfl (OpT_assign rfl rfl rfl rfl) ?_
  refine Tops_nil (Tk_wkS (fr' := [(0, some (vI (remi np0 m))), (1, some (vI m))]) (own' := []) (shr' := []) [0, 1] [] [] rfl rfl rfl rfl ?_)
  refine Tk_seq (Tk_seq (Tk_region (Tops_step rfl (OpT_move rfl rfl rfl rfl) ?_)))
  refine Tops_step rfl (OpT_bin rfl rfl rfl rfl rfl (bin_lss_i (a := remi np0 m) (b := (0 : Int)))) ?_
  refine Tops_nil (Tk_wkS (fr' := [(0, some (vI (remi np0 m))), (1, some (vI m)), (11, some (vB (decide ((remi np0 m) < (0 : Int)))))]) (own' := []) (shr' := []) [0, 1, 11] [] [] rfl rfl rfl rfl ?_)
  rcases Bool.eq_false_or_eq_true (decide ((remi np0 m) < (0 : Int))) with hg2 | hg2
  ·replace h := br_t hg2 h
   refine Tk_condT (congrArg (fun b => some (Value.bool b)) hg2) ?_
   refine Tk_region (Tops_step rfl (OpT_move rfl rfl rfl rfl) ?_)
   refine Tops_step rfl (OpT_move rfl rfl rfl rfl) ?_
   refine Tops_step rfl (OpT_bin rfl rfl rfl rfl rfl (bin_add_i (a := remi np0 m) (b := m))) ?_
   refine Tops_step rfl (OpT_assign rfl rfl rfl rfl) ?_
   refine Tops_nil (Tk_wkS (fr' := [(0, some (vI (wi ((remi np0 m) + m))))]) (own' := []) (shr' := []) [0] [] [] rfl rfl rfl rfl ?_)
   refine Tk_seq (Tk_region (Tops_step rfl (OpT_move rfl rfl rfl rfl) ?_))
   refine Tops_step rfl (OpT_assign rfl rfl rfl rfl) ?_
   refine Tops_nil (Tk_wkS (fr' := [(4, some (vI (wi ((remi np0 m) + m))))]) (own' := []) (shr' := []) [4] [] [] rfl rfl rfl rfl ?_)
   obtain rfl := Option.some.inj h
   exact Tk_retV rfl rfl (resA (vs := [vI (wi ((remi np0 m) + m))]) rfl ⟨rfl, trivial⟩) [] [] rfl rfl rfl ⟨rfl, rfl, rfl⟩
  ·replace h := br_f hg2 h
   refine Tk_condF (congrArg (fun b => some (Value.bool b)) hg2) ?_
   refine Tk_skip (Tk_seq (Tk_region (Tops_step rfl (OpT_move rfl rfl rfl rfl) ?_)))
   refine Tops_step rfl (OpT_assign rfl rfl rfl rfl) ?_
   refine Tops_nil (Tk_wkS (fr' := [(4, some (vI (remi np0 m)))]) (own' := []) (shr' := []) [4] [] [] rfl rfl rfl rfl ?_)
   obtain rfl := Option.some.inj h
   exact Tk_retV rfl rfl (resA (vs := [vI (remi np0 m)]) rfl ⟨rfl, trivial⟩) [] [] rfl rfl rfl ⟨rfl, rfl, rfl⟩

set_option maxRecDepth 100000 in
set_option maxHeartbeats 4000000 in
theorem w_kit_Own {b : List UInt8} {vb1 : Value} {r : (List UInt8)} (h : kit_Own b = some r) :
  Ctr Try.prog 16 #[vb1] [] [Fact.sl u8S vb1 b]
   (fun rv own shr => ∃ (w1 : Value), rv = w1 ∧ own = [(rowS u8S w1 r)] ∧ shr = []) := by
 unfold kit_Own at h
 refine Ctr.mk (args := [vb1]) Try.func16 rfl rfl (fun R0 w0 B => ?_)
 refine Tk_seq (Tk_region (Tops_step rfl (OpT_assign rfl rfl rfl rfl) ?_))
 refine Tops_nil (Tk_wkS (fr' := [(0, some (vb1))]) (own' := []) (shr' := [Fact.sl u8S vb1 b]) [0] [] [0] rfl rfl rfl rfl ?_)
 refine Tk_seq (Tk_region (Tops_ex rfl (OpT_buildSlice (S := u8S) (xs := ([] : List UInt8)) (css := []) (cs := []) (e := 5) rfl rfl rfl rfl (bldF slF30 (by decide) (by kernel_rfl)) rfl rfl rfl rfl (rel_plainD (S := u8S) (xs := ([] : List UInt8)) (css := []) rfl rfl)) fun v1 => ?_))
 refine Tops_step rfl (OpT_move rfl rfl rfl rfl) ?_
 obtain ⟨hc1, h⟩ := chk_e h
 refine Tops_ex rfl (OpT_append rfl rfl rfl rfl rfl slF30 (i := 0) (j := 0) rfl rfl hc1) fun v2 => ?_
 refine Tops_step rfl (OpT_assign rfl rfl rfl rfl) ?_
 refine Tops_nil (Tk_wkS (fr' := [(2, some (v2))]) (own' := [some (rowS u8S v2 b)]) (shr' := []) [2] [0] [] rfl rfl rfl rfl ?_)
 obtain rfl := Option.some.inj h
 exact Tk_retV rfl rfl (resA (vs := [v2]) rfl ⟨rfl, trivial⟩) [0] [] rfl rfl rfl ⟨v2, rfl, rfl, rfl⟩

end Go.Proofs.Ytkjmmbmlapmkbaa
