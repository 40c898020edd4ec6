/- The functions do what the plain words say: each is walked once. No statement of the seat is proved here; no condition. -/
import Derived.Test.YtbeendakebamhaaWa2
namespace Go.Proofs.Ytbeendakebamhaa

set_option maxRecDepth 100000 in
set_option maxHeartbeats 4000000 in
theorem w_gmem_Mem_Read {m : gmem_Mem} {atp1 : UInt64} {np2 : Int} {b_m : Nat} {vm1 : Value} {vm2 : Value} {vsm1 : List Value} {r : ((List UInt8) × Int)} (h : gmem_Mem_Read m atp1 np2 = some r) :
  Ctr Try.prog 35 #[.pointer (some ⟨b_m, 0, none⟩), vU64 atp1, vI np2] [(cellsR b_m 72 [vm1, vm2]), (rowsX u8S true vm2 vsm1 m.b none)] [Fact.sl RegionS vm1 m.l]
   (fun rv own shr => ∃ (w1 : Value), rv = .tuple #[w1, vI r.2] ∧ own = [(cellsR b_m 72 [vm1, vm2]), (rowsX u8S true vm2 vsm1 m.b none), (rowS u8S w1 r.1)] ∧ shr = []) := by
 unfold gmem_Mem_Read at h
 refine Ctr.mk (args := [.pointer (some ⟨b_m, 0, none⟩), vU64 atp1, vI np2]) Try.func35 rfl rfl (fun R0 w0 B => ?_)
 refine Tk_seq (Tk_region (Tops_step rfl (OpT_assign rfl rfl rfl rfl) ?_))
 refine Tops_step rfl (OpT_assign rfl rfl rfl rfl) ?_
 refine Tops_nil (Tk_wkS (fr' := [(0, some (.pointer (some ⟨b_m, 0, none⟩))), (1, some (vU64 atp1)), (2, some (vI np2))]) (own' := [some (cellsR b_m 72 [vm1, vm2]), some (rowsX u8S true vm2 vsm1 m.b none)]) (shr' := [Fact.sl RegionS vm1 m.l]) [0, 1, 2] [0, 1] [0] rfl rfl rfl rfl ?_)
 refine Tk_seq (Tk_seq (Tk_region (Tops_step rfl (OpT_move rfl rfl rfl rfl) ?_)))
 obtain ⟨made1, hx1, h⟩ := ob_e h
 refine Tops_exP rfl (OpT_callP [2, 3] (w_gmem_Mem_made hx1) [0, 1] [0] rfl rfl rfl rfl rfl callee43 rfl rfl rfl rfl rfl) ?_
 rintro _ ⟨_, _, _, ⟨rfl, rfl, rfl⟩, rfl⟩
 refine Tops_step rfl (OpT_not rfl rfl rfl rfl) ?_
 refine Tops_nil (Tk_wkS (fr' := [(0, some (.pointer (some ⟨b_m, 0, none⟩))), (1, some (vU64 atp1)), (2, some (vI np2)), (11, some (vB (!made1)))]) (own' := [some (cellsR b_m 72 [vm1, vm2]), some (rowsX u8S true vm2 vsm1 m.b none)]) (shr' := [Fact.sl RegionS vm1 m.l]) [0, 1, 2, 11] [0, 1] [0] rfl rfl rfl rfl ?_)
 refine Tk_condF (congrArg (fun b => some (Value.bool b)) (congrArg (!·) (Option.some.inj (show some true = some made1 from hx1)).symm)) ?_
 refine Tk_skip (Tk_seq (Tk_block (Tk_seq (Tk_region (Tops_step rfl (OpT_move rfl rfl rfl rfl) ?_)))))
 refine Tops_step rfl (OpT_bin rfl rfl rfl rfl rfl (bin_lss_i (a := np2) (b := (0 : Int)))) ?_
 refine Tops_step rfl (OpT_assign rfl rfl rfl rfl) ?_
 refine Tops_nil (Tk_wkS (fr' := [(0, some (.pointer (some ⟨b_m, 0, none⟩))), (1, some (vU64 atp1)), (2, some (vI np2)), (12, some (vB (decide (np2 < (0 : Int)))))]) (own' := [some (cellsR b_m 72 [vm1, vm2]), some (rowsX u8S true vm2 vsm1 m.b none)]) (shr' := [Fact.sl RegionS vm1 m.l]) [0, 1, 2, 12] [0, 1] [0] rfl rfl rfl rfl ?_)
 rcases Bool.eq_false_or_eq_true (decide (np2 < (0 : Int))) with hg1 | hg1
 ·replace h := br_t hg1 h
  refine Tk_condT (congrArg (fun b => some (Value.bool b)) hg1) ?_
  refine Tk_seq (Tk_region (Tops_step rfl (OpT_assign rfl rfl rfl rfl) ?_))
  refine Tops_step rfl (OpT_assign rfl rfl rfl rfl) ?_
  refine Tops_nil (Tk_wkS (fr' := [(6, some (.slice none 0 0)), (7, some (vI (2 : Int)))]) (own' := [some (cellsR b_m 72 [vm1, vm2]), some (rowsX u8S true vm2 vsm1 m.b none)]) (shr' := [Fact.sl RegionS vm1 m.l]) [6, 7] [0, 1] [0] rfl rfl rfl rfl ?_)
  refine Tk_nilrow u8S ?_
  obtain rfl := Option.some.inj h
  exact Tk_retV rfl rfl (resA (vs := [.slice none 0 0, vI (2 : Int)]) rfl ⟨rfl, rfl, trivial⟩) [0, 1, 2] [] rfl rfl rfl ⟨(.slice none 0 0), rfl, rfl, rfl⟩
 ·replace h := br_f hg1 h
  refine Tk_condF (congrArg (fun b => some (Value.bool b)) hg1) ?_
  refine Tk_seq (Tk_region (Tops_step rfl (OpT_move rfl rfl rfl rfl) ?_))
  refine Tops_step rfl (OpT_bin rfl rfl rfl rfl rfl (bin_eql_i (a := np2) (b := (0 : Int)))) ?_
  refine Tops_step rfl (OpT_assign rfl rfl rfl rfl) ?_
  refine Tops_nil (Tk_wkS (fr' := [(0, some (.pointer (some ⟨b_m, 0, none⟩))), (1, some (vU64 atp1)), (2, some (vI np2)), (15, some (vB (np2 == (0 : Int))))]) (own' := [some (cellsR b_m 72 [vm1, vm2]), some (rowsX u8S true vm2 vsm1 m.b none)]) (shr' := [Fact.sl RegionS vm1 m.l]) [0, 1, 2, 15] [0, 1] [0] rfl rfl rfl rfl ?_)
  rcases Bool.eq_false_or_eq_true (np2 == (0 : Int)) with hg2 | hg2
  ·replace h := br_t hg2 h
   refine Tk_condT (congrArg (fun b => some (Value.bool b)) hg2) ?_
   refine Tk_seq (Tk_region (Tops_step rfl (OpT_assign rfl rfl rfl rfl) ?_))
   refine Tops_step rfl (OpT_assign rfl rfl rfl rfl) ?_
   refine Tops_nil (Tk_wkS (fr' := [(6, some (.slice none 0 0)), (7, some (vI (0 : Int)))]) (own' := [some (cellsR b_m 72 [vm1, vm2]), some (rowsX u8S true vm2 vsm1 m.b none)]) (shr' := [Fact.sl RegionS vm1 m.l]) [6, 7] [0, 1] [0] rfl rfl rfl rfl ?_)
   refine Tk_nilrow u8S ?_
   obtain rfl := Option.some.inj h
   exact Tk_retV rfl rfl (resA (vs := [.slice none 0 0, vI (0 : Int)]) rfl ⟨rfl, rfl, trivial⟩) [0, 1, 2] [] rfl rfl rfl ⟨(.slice none 0 0), rfl, rfl, rfl⟩
  ·replace h := br_f hg2 h
   refine Tk_condF (congrArg (fun b => some (Value.bool b)) hg2) ?_
   refine Tk_skip (Tk_blk (Tk_seq (Tk_region (Tops_step rfl (OpT_move rfl rfl rfl rfl) ?_))))
   refine Tops_step rfl (OpT_move rfl rfl rfl rfl) ?_
   refine Tops_step rfl (OpT_move rfl rfl rfl rfl) ?_
   refine Tops_step rfl (OpT_cnv rfl rfl rfl rfl (cnv_i_u64 (n := np2) Try.underlying3 Try.underlying22)) ?_
   obtain ⟨bytes1, hx2, h⟩ := ob_e h
   refine Tops_exP rfl (OpT_callP [2, 3] (w_gmem_Mem_bytes hx2) [0, 1] [0] rfl rfl rfl rfl rfl callee44 rfl rfl rfl rfl rfl) ?_
   rintro _ ⟨_, _, _, ⟨rfl, rfl, rfl⟩, rfl⟩
   refine Tops_step rfl (OpT_assign rfl rfl rfl rfl) ?_
   refine Tops_nil (Tk_wkS (fr' := [(8, some (winV 1 vsm1 bytes1))]) (own' := [some (cellsR b_m 72 [vm1, vm2]), some (rowsX u8S true vm2 vsm1 m.b none)]) (shr' := [Fact.sl RegionS vm1 m.l]) [8] [0, 1] [0] rfl rfl rfl rfl ?_)
   rcases onO_cases h with ⟨ho1, h⟩ | ⟨w1, ho1, h⟩
   ·refine Tk_eqv (x := winV 1 vsm1 bytes1) (y := .slice none 0 0) (by rw [ho1]; rfl) (fun z => ⟨[(8, some (z))], [some (cellsR b_m 72 [vm1, vm2]), some (rowsX u8S true vm2 vsm1 m.b none)], [Fact.sl RegionS vm1 m.l]⟩) ?_
    refine Tk_seq (Tk_seq (Tk_region (Tops_step rfl (OpT_move rfl rfl rfl rfl) ?_)))
    refine Tops_step rfl (OpT_eqNilN rfl rfl rfl (.inl rfl) rfl rfl Try.underlying73) ?_
    refine Tops_nil (Tk_wkS (fr' := [(8, some (.slice none 0 0)), (24, some (vB true))]) (own' := [some (cellsR b_m 72 [vm1, vm2]), some (rowsX u8S true vm2 vsm1 m.b none)]) (shr' := [Fact.sl RegionS vm1 m.l]) [8, 24] [0, 1] [0] rfl rfl rfl rfl ?_)
    refine Tk_condT rfl ?_
    refine Tk_seq (Tk_region (Tops_step rfl (OpT_assign rfl rfl rfl rfl) ?_))
    refine Tops_step rfl (OpT_assign rfl rfl rfl rfl) ?_
    refine Tops_nil (Tk_wkS (fr' := [(6, some (.slice none 0 0)), (7, some (vI (5 : Int)))]) (own' := [some (cellsR b_m 72 [vm1, vm2]), some (rowsX u8S true vm2 vsm1 m.b none)]) (shr' := [Fact.sl RegionS vm1 m.l]) [6, 7] [0, 1] [0] rfl rfl rfl rfl ?_)
    refine Tk_nilrow u8S ?_
    obtain rfl := Option.some.inj h
    exact Tk_retV rfl rfl (resA (vs := [.slice none 0 0, vI (5 : Int)]) rfl ⟨rfl, rfl, trivial⟩) [0, 1, 2] [] rfl rfl rfl ⟨(.slice none 0 0), rfl, rfl, rfl⟩
   ·refine Tk_eqv (x := winV 1 vsm1 bytes1) (y := subV (vsAt vsm1 (Int.toNat w1.1)) 1 (Int.toNat w1.2.1) (Int.toNat w1.2.2)) (by rw [ho1]; rfl) (fun z => ⟨[(8, some (z))], [some (cellsR b_m 72 [vm1, vm2]), some (rowsX u8S true vm2 vsm1 m.b none)], [Fact.sl RegionS vm1 m.l]⟩) ?_
    obtain ⟨row1, hx3, h⟩ := ob_e h
    refine Tk_vs (vs_focus (i := 1) (j := w1.1) rfl hx3) ?_
    obtain ⟨hc1, h⟩ := chk_e h
    refine Tk_seq (Tk_seq (Tk_region (Tops_step rfl (OpT_move rfl rfl rfl rfl) ?_)))
    obtain ⟨hc2, h⟩ := chk_e h
    refine Tops_step rfl (OpT_eqSub (S := u8S) (l := w1.2.1) (m := w1.2.2) rfl rfl rfl (.inl rfl) rfl rfl Try.underlying73 (i := 2) rfl hc1 hc2) ?_
    refine Tops_nil (Tk_wkS (fr' := [(8, some (subV (vsAt vsm1 (Int.toNat w1.1)) 1 (Int.toNat w1.2.1) (Int.toNat w1.2.2))), (24, some (vB false))]) (own' := [some (cellsR b_m 72 [vm1, vm2]), some (rowsX u8S true vm2 vsm1 m.b (some (Int.toNat w1.1, vsAt vsm1 (Int.toNat w1.1)))), some (rowS u8S (vsAt vsm1 (Int.toNat w1.1)) row1)]) (shr' := [Fact.sl RegionS vm1 m.l]) [8, 24] [0, 1, 2] [0] rfl rfl rfl rfl ?_)
    refine Tk_condF rfl ?_
    refine Tk_skip (Tk_seq (Tk_region (Tops_step rfl (OpT_move rfl rfl rfl rfl) ?_)))
    obtain ⟨cloneb1, hx4, h⟩ := ob_e h
    refine Tops_exP rfl (OpT_callB [2] [0, 1, 2, 3] (w_slices_Clone_bytebyte hx4) [] rfl rfl rfl rfl rfl callee45 rfl rfl rfl rfl rfl rfl (bor_cons (bor_sub (S := u8S) (l := w1.2.1) (m := w1.2.2) 2 rfl rfl hc1) bor_nil) (by rintro _ _ _ ⟨_, rfl, rfl, rfl⟩; exact ⟨rfl, (ri_cons (ri_row (S := u8S) rfl _ _) ri_nil)⟩)) ?_
    rintro _ ⟨v1, _, _, ⟨_, rfl, rfl, rfl⟩, rfl⟩
    refine Tops_step rfl (OpT_assign rfl rfl rfl rfl) ?_
    refine Tops_step rfl (OpT_assign rfl rfl rfl rfl) ?_
    refine Tops_nil (Tk_wkS (fr' := [(6, some (v1)), (7, some (vI (0 : Int)))]) (own' := [some (cellsR b_m 72 [vm1, vm2]), some (rowsX u8S true vm2 vsm1 m.b (some (Int.toNat w1.1, vsAt vsm1 (Int.toNat w1.1)))), some (rowS u8S (vsAt vsm1 (Int.toNat w1.1)) row1), some (rowS u8S v1 cloneb1)]) (shr' := [Fact.sl RegionS vm1 m.l]) [6, 7] [0, 1, 2, 3] [0] rfl rfl rfl rfl ?_)
    refine Tk_vs (vs_unfocus0 (i := 1) (q := 2) rfl rfl rfl hx3) ?_
    obtain rfl := Option.some.inj h
    exact Tk_retV rfl rfl (resA (vs := [v1, vI (0 : Int)]) rfl ⟨rfl, rfl, trivial⟩) [0, 1, 3] [] rfl rfl rfl ⟨v1, rfl, rfl, rfl⟩

set_option maxRecDepth 100000 in
set_option maxHeartbeats 4000000 in
theorem w_gmem_Mem_Has {m : gmem_Mem} {atp1 : UInt64} {np2 : UInt64} {b_m : Nat} {vm1 : Value} {vm2 : Value} {vsm1 : List Value} {r : Bool} (h : gmem_Mem_Has m atp1 np2 = some r) :
  Ctr Try.prog 36 #[.pointer (some ⟨b_m, 0, none⟩), vU64 atp1, vU64 np2] [(cellsR b_m 72 [vm1, vm2]), (rowsX u8S true vm2 vsm1 m.b none)] [Fact.sl RegionS vm1 m.l]
   (fun rv own shr => rv = vB r ∧ own = [(cellsR b_m 72 [vm1, vm2]), (rowsX u8S true vm2 vsm1 m.b none)] ∧ shr = []) := by
 unfold gmem_Mem_Has at h
 refine Ctr.mk (args := [.pointer (some ⟨b_m, 0, none⟩), vU64 atp1, vU64 np2]) Try.func36 rfl rfl (fun R0 w0 B => ?_)
 refine Tk_seq (Tk_region (Tops_step rfl (OpT_assign rfl rfl rfl rfl) ?_))
 refine Tops_nil (Tk_wkS (fr' := [(0, some (.pointer (some ⟨b_m, 0, none⟩))), (1, some (vU64 atp1)), (2, some (vU64 np2))]) (own' := [some (cellsR b_m 72 [vm1, vm2]), some (rowsX u8S true vm2 vsm1 m.b none)]) (shr' := [Fact.sl RegionS vm1 m.l]) [0, 1, 2] [0, 1] [0] rfl rfl rfl rfl ?_)
 refine Tk_seq (Tk_region (Tops_step rfl (OpT_move rfl rfl rfl rfl) ?_))
 obtain ⟨made1, hx1, h⟩ := ob_e h
 refine Tops_exP rfl (OpT_callP [2, 3] (w_gmem_Mem_made hx1) [0, 1] [0] rfl rfl rfl rfl rfl callee43 rfl rfl rfl rfl rfl) ?_
 rintro _ ⟨_, _, _, ⟨rfl, rfl, rfl⟩, rfl⟩
 refine Tops_step rfl (OpT_move rfl rfl rfl rfl) ?_
 refine Tops_yes rfl rfl (congrArg (fun b => some (Value.bool b)) (Option.some.inj (show some true = some made1 from hx1)).symm) (OpT_move rfl rfl rfl rfl) ?_
 rintro _ rfl
 refine Tops_yes rfl rfl (congrArg (fun b => some (Value.bool b)) (Option.some.inj (show some true = some made1 from hx1)).symm) (OpT_move rfl rfl rfl rfl) ?_
 rintro _ rfl
 refine Tops_yes rfl rfl (congrArg (fun b => some (Value.bool b)) (Option.some.inj (show some true = some made1 from hx1)).symm) (OpT_move rfl rfl rfl rfl) ?_
 rintro _ rfl
 obtain ⟨bytes1, hx2, h⟩ := ob_e h
 refine Tops_yes rfl rfl (congrArg (fun b => some (Value.bool b)) (Option.some.inj (show some true = some made1 from hx1)).symm) (OpT_callP [2, 3] (w_gmem_Mem_bytes hx2) [0, 1] [0] rfl rfl rfl rfl rfl callee44 rfl rfl rfl rfl rfl) ?_
 rintro _ ⟨_, _, _, ⟨rfl, rfl, rfl⟩, rfl⟩
 rcases onO_cases h with ⟨ho1, h⟩ | ⟨w1, ho1, h⟩
 ·rw [show (winV 1 vsm1 bytes1 : Value) = .slice none 0 0 from by rw [ho1]; rfl]
  refine Tops_yes rfl rfl (congrArg (fun b => some (Value.bool b)) (Option.some.inj (show some true = some made1 from hx1)).symm) (OpT_eqNilN rfl rfl rfl (.inr rfl) rfl rfl Try.underlying73) ?_
  rintro _ rfl
  refine Tops_step rfl (OpT_pickT rfl rfl rfl (congrArg (fun b => some (Value.bool b)) (Option.some.inj (show some true = some made1 from hx1)).symm) rfl) ?_
  refine Tops_step rfl (OpT_assign rfl rfl rfl rfl) ?_
  refine Tops_nil (Tk_wkS (fr' := [(6, some (vB false))]) (own' := [some (cellsR b_m 72 [vm1, vm2]), some (rowsX u8S true vm2 vsm1 m.b none)]) (shr' := [Fact.sl RegionS vm1 m.l]) [6] [0, 1] [0] rfl rfl rfl rfl ?_)
  obtain rfl := Option.some.inj h
  exact Tk_retV rfl rfl (resA (vs := [vB false]) rfl ⟨rfl, trivial⟩) [0, 1] [] rfl rfl rfl ⟨rfl, rfl, rfl⟩
 ·rw [show (winV 1 vsm1 bytes1 : Value) = subV (vsAt vsm1 (Int.toNat w1.1)) 1 (Int.toNat w1.2.1) (Int.toNat w1.2.2) from by rw [ho1]; rfl]
  obtain ⟨row1, hx3, h⟩ := ob_e h
  refine Tops_vs (vs_focus (i := 1) (j := w1.1) rfl hx3) ?_
  obtain ⟨hc1, h⟩ := chk_e h
  obtain ⟨hc2, h⟩ := chk_e h
  refine Tops_yes rfl rfl (congrArg (fun b => some (Value.bool b)) (Option.some.inj (show some true = some made1 from hx1)).symm) (OpT_eqSub (S := u8S) (l := w1.2.1) (m := w1.2.2) rfl rfl rfl (.inr rfl) rfl rfl Try.underlying73 (i := 2) rfl hc1 hc2) ?_
  rintro _ rfl
  refine Tops_step rfl (OpT_pickT rfl rfl rfl (congrArg (fun b => some (Value.bool b)) (Option.some.inj (show some true = some made1 from hx1)).symm) rfl) ?_
  refine Tops_step rfl (OpT_assign rfl rfl rfl rfl) ?_
  refine Tops_nil (Tk_wkS (fr' := [(6, some (vB true))]) (own' := [some (cellsR b_m 72 [vm1, vm2]), some (rowsX u8S true vm2 vsm1 m.b (some (Int.toNat w1.1, vsAt vsm1 (Int.toNat w1.1)))), some (rowS u8S (vsAt vsm1 (Int.toNat w1.1)) row1)]) (shr' := [Fact.sl RegionS vm1 m.l]) [6] [0, 1, 2] [0] rfl rfl rfl rfl ?_)
  refine Tk_vs (vs_unfocus0 (i := 1) (q := 2) rfl rfl rfl hx3) ?_
  obtain rfl := Option.some.inj h
  exact Tk_retV rfl rfl (resA (vs := [vB true]) rfl ⟨rfl, trivial⟩) [0, 1] [] rfl rfl rfl ⟨rfl, rfl, rfl⟩

set_option maxRecDepth 100000 in
set_option maxHeartbeats 4000000 in
theorem w_layout_Fits {m : gmem_Mem} {rp1 : Rings} {b_m : Nat} {vm1 : Value} {vm2 : Value} {vsm1 : List Value} {r : Int} (h : layout_Fits m rp1 = some r) :
  Ctr Try.prog 17 #[.pointer (some ⟨b_m, 0, none⟩), .agg #[vB rp1.Packed, vI rp1.Size, vU64 rp1.Desc, vU64 rp1.Driver, vU64 rp1.Device]] [(cellsR b_m 72 [vm1, vm2]), (rowsX u8S true vm2 vsm1 m.b none)] [Fact.sl RegionS vm1 m.l]
   (fun rv own shr => rv = vI r ∧ own = [(cellsR b_m 72 [vm1, vm2]), (rowsX u8S true vm2 vsm1 m.b none)] ∧ shr = []) := by
 unfold layout_Fits at h
 refine Ctr.mk (args := [.pointer (some ⟨b_m, 0, none⟩), .agg #[vB rp1.Packed, vI rp1.Size, vU64 rp1.Desc, vU64 rp1.Driver, vU64 rp1.Device]]) Try.func17 rfl rfl (fun R0 w0 B => ?_)
 refine Tk_seq (Tk_region (Tops_ex rfl (OpT_box rfl rfl rfl rfl) fun b1 => ?_))
 refine Tops_step rfl (OpT_assign rfl rfl rfl rfl) ?_
 refine Tops_nil (Tk_wkS (fr' := [(0, some (.pointer (some ⟨b_m, 0, none⟩))), (3, some (.pointer (some ⟨b1, 0, none⟩)))]) (own' := [some (cellsR b_m 72 [vm1, vm2]), some (rowsX u8S true vm2 vsm1 m.b none), some (cellsR b1 27 [vB rp1.Packed, vI rp1.Size, vU64 rp1.Desc, vU64 rp1.Driver, vU64 rp1.Device])]) (shr' := [Fact.sl RegionS vm1 m.l]) [0, 3] [0, 1, 2] [0] rfl rfl rfl rfl ?_)
 refine Tk_seq (Tk_seq (Tk_region (Tops_step rfl (OpT_move rfl rfl rfl rfl) ?_)))
 obtain ⟨read1, hx1, h⟩ := ob_e h
 refine Tops_exP rfl (OpT_callP [3, 4, 2, 5] (w_gmem_Mem_Read hx1) [0, 1] [0] rfl rfl rfl rfl rfl callee35 rfl rfl rfl rfl rfl) ?_
 rintro _ ⟨_, _, _, ⟨v1, rfl, rfl, rfl⟩, rfl⟩
 refine Tops_step rfl (OpT_move rfl rfl rfl rfl) ?_
 refine Tops_step rfl (OpT_extract rfl rfl rfl rfl rfl) ?_
 refine Tops_step rfl (OpT_extract rfl rfl rfl rfl rfl) ?_
 refine Tops_step rfl (OpT_assign rfl rfl rfl rfl) ?_
 refine Tops_step rfl (OpT_assign rfl rfl rfl rfl) ?_
 refine Tops_nil (Tk_wkS (fr' := [(0, some (.pointer (some ⟨b_m, 0, none⟩))), (3, some (.pointer (some ⟨b1, 0, none⟩))), (6, some (vI read1.2))]) (own' := [some (cellsR b_m 72 [vm1, vm2]), some (rowsX u8S true vm2 vsm1 m.b none), some (cellsR b1 27 [vB rp1.Packed, vI rp1.Size, vU64 rp1.Desc, vU64 rp1.Driver, vU64 rp1.Device])]) (shr' := [Fact.sl RegionS vm1 m.l]) [0, 3, 6] [0, 1, 2] [0] rfl rfl rfl rfl ?_)
 refine Tk_seq (Tk_region (Tops_step rfl (OpT_move rfl rfl rfl rfl) ?_))
 refine Tops_step rfl (OpT_bin rfl rfl rfl rfl rfl (bin_eql_i (a := read1.2) (b := (1 : Int)))) ?_
 refine Tops_nil (Tk_wkS (fr' := [(0, some (.pointer (some ⟨b_m, 0, none⟩))), (3, some (.pointer (some ⟨b1, 0, none⟩))), (6, some (vI read1.2)), (16, some (vB (read1.2 == (1 : Int))))]) (own' := [some (cellsR b_m 72 [vm1, vm2]), some (rowsX u8S true vm2 vsm1 m.b none), some (cellsR b1 27 [vB rp1.Packed, vI rp1.Size, vU64 rp1.Desc, vU64 rp1.Driver, vU64 rp1.Device])]) (shr' := [Fact.sl RegionS vm1 m.l]) [0, 3, 6, 16] [0, 1, 2] [0] rfl rfl rfl rfl ?_)
 rcases Bool.eq_false_or_eq_true (read1.2 == (1 : Int)) with hg1 | hg1
 ·replace h := br_t hg1 h
  refine Tk_condT (congrArg (fun b => some (Value.bool b)) hg1) ?_
  refine Tk_seq (Tk_region (Tops_step rfl (OpT_move rfl rfl rfl rfl) ?_))
  refine Tops_step rfl (OpT_assign rfl rfl rfl rfl) ?_
  refine Tops_nil (Tk_wkS (fr' := [(4, some (vI read1.2))]) (own' := [some (cellsR b_m 72 [vm1, vm2]), some (rowsX u8S true vm2 vsm1 m.b none)]) (shr' := [Fact.sl RegionS vm1 m.l]) [4] [0, 1] [0] rfl rfl rfl rfl ?_)
  obtain rfl := Option.some.inj h
  exact Tk_retV rfl rfl (resA (vs := [vI read1.2]) rfl ⟨rfl, trivial⟩) [0, 1] [] rfl rfl rfl ⟨rfl, rfl, rfl⟩
 ·replace h := br_f hg1 h
  refine Tk_condF (congrArg (fun b => some (Value.bool b)) hg1) ?_
  refine Tk_skip (Tk_seq (Tk_seq (Tk_region (Tops_step rfl (OpT_loadCA (vs := [vB rp1.Packed, vI rp1.Size, vU64 rp1.Desc, vU64 rp1.Driver, vU64 rp1.Device]) rfl rfl rfl rfl tyF27 (i := 2) rfl rfl rfl) ?_))))
  obtain ⟨check1, hx2, h⟩ := ob_e h
  refine Tops_exP rfl (OpT_call (w_layout_Check hx2) [] [] rfl rfl rfl rfl rfl callee13 rfl rfl rfl rfl) ?_
  rintro _ ⟨_, _, _, ⟨rfl, rfl, rfl⟩, rfl⟩
  refine Tops_step rfl (OpT_assign rfl rfl rfl rfl) ?_
  refine Tops_nil (Tk_wkS (fr' := [(0, some (.pointer (some ⟨b_m, 0, none⟩))), (3, some (.pointer (some ⟨b1, 0, none⟩))), (7, some (vI check1))]) (own' := [some (cellsR b_m 72 [vm1, vm2]), some (rowsX u8S true vm2 vsm1 m.b none), some (cellsR b1 27 [vB rp1.Packed, vI rp1.Size, vU64 rp1.Desc, vU64 rp1.Driver, vU64 rp1.Device])]) (shr' := [Fact.sl RegionS vm1 m.l]) [0, 3, 7] [0, 1, 2] [0] rfl rfl rfl rfl ?_)
  refine Tk_seq (Tk_region (Tops_step rfl (OpT_move rfl rfl rfl rfl) ?_))
  refine Tops_step rfl (OpT_bin rfl rfl rfl rfl rfl (bin_neq_i (a := check1) (b := (0 : Int)))) ?_
  refine Tops_nil (Tk_wkS (fr' := [(0, some (.pointer (some ⟨b_m, 0, none⟩))), (3, some (.pointer (some ⟨b1, 0, none⟩))), (7, some (vI check1)), (21, some (vB (check1 != (0 : Int))))]) (own' := [some (cellsR b_m 72 [vm1, vm2]), some (rowsX u8S true vm2 vsm1 m.b none), some (cellsR b1 27 [vB rp1.Packed, vI rp1.Size, vU64 rp1.Desc, vU64 rp1.Driver, vU64 rp1.Device])]) (shr' := [Fact.sl RegionS vm1 m.l]) [0, 3, 7, 21] [0, 1, 2] [0] rfl rfl rfl rfl ?_)
  rcases Bool.eq_false_or_eq_true (check1 != (0 : Int)) with hg2 | hg2
  ·replace h := br_t hg2 h
   refine Tk_condT (congrArg (fun b => some (Value.bool b)) hg2) ?_
   refine Tk_seq (Tk_region (Tops_step rfl (OpT_move rfl rfl rfl rfl) ?_))
   refine Tops_step rfl (OpT_assign rfl rfl rfl rfl) ?_
   refine Tops_nil (Tk_wkS (fr' := [(4, some (vI check1))]) (own' := [some (cellsR b_m 72 [vm1, vm2]), some (rowsX u8S true vm2 vsm1 m.b none)]) (shr' := [Fact.sl RegionS vm1 m.l]) [4] [0, 1] [0] rfl rfl rfl rfl ?_)
   obtain rfl := Option.some.inj h
   exact Tk_retV rfl rfl (resA (vs := [vI check1]) rfl ⟨rfl, trivial⟩) [0, 1] [] rfl rfl rfl ⟨rfl, rfl, rfl⟩
  ·replace h := br_f hg2 h
   refine Tk_condF (congrArg (fun b => some (Value.bool b)) hg2) ?_
   refine Tk_skip (Tk_seq (Tk_seq (Tk_region (Tops_step rfl (OpT_loadCA (vs := [vB rp1.Packed, vI rp1.Size, vU64 rp1.Desc, vU64 rp1.Driver, vU64 rp1.Device]) rfl rfl rfl rfl tyF27 (i := 2) rfl rfl rfl) ?_))))
   obtain ⟨spans1, hx3, h⟩ := ob_e h
   refine Tops_exP rfl (OpT_call (w_layout_spans hx3) [] [] rfl rfl rfl rfl rfl callee29 rfl rfl rfl rfl) ?_
   rintro _ ⟨_, _, _, ⟨rfl, rfl, rfl⟩, rfl⟩
   refine Tops_step rfl (OpT_move rfl rfl rfl rfl) ?_
   refine Tops_nil (Tk_wkS (fr' := [(0, some (.pointer (some ⟨b_m, 0, none⟩))), (24, some (.agg #[vU64 spans1.a0.a0, vU64 spans1.a0.a1, vU64 spans1.a1.a0, vU64 spans1.a1.a1, vU64 spans1.a2.a0, vU64 spans1.a2.a1])), (25, some (vI (0 : Int)))]) (own' := [some (cellsR b_m 72 [vm1, vm2]), some (rowsX u8S true vm2 vsm1 m.b none)]) (shr' := [Fact.sl RegionS vm1 m.l]) [0, 24, 25] [0, 1] [0] rfl rfl rfl rfl ?_)
   refine Tk_block (Tk_unroll 3 ?_)
   refine Tk_seq (Tk_region (Tops_step rfl (OpT_bin rfl rfl rfl rfl rfl (bin_lss_i (a := (0 : Int)) (b := (3 : Int)))) ?_))
   refine Tops_nil (Tk_seq (Tk_condT rfl ?_))
   refine Tk_skip (Tk_seq (Tk_block (Tk_seq (Tk_region (Tops_step rfl (OpT_idxKA (cs := [vU64 spans1.a0.a0, vU64 spans1.a0.a1, vU64 spans1.a1.a0, vU64 spans1.a1.a1, vU64 spans1.a2.a0, vU64 spans1.a2.a1]) (vs := [vU64 spans1.a0.a0, vU64 spans1.a0.a1]) rfl rfl rfl rfl rfl arrF59 tyF58 (by decide) rfl) ?_)))))
   refine Tops_ex rfl (OpT_alloc rfl rfl rfl tyZ58) fun b2 => ?_
   refine Tops_step rfl (OpT_storeC (cs' := [vU64 spans1.a0.a0, vU64 spans1.a0.a1]) rfl rfl rfl rfl tyF58 (i := 2) rfl rfl rfl (one_of rfl) rfl) ?_
   refine Tops_nil (Tk_wkS (fr' := [(0, some (.pointer (some ⟨b_m, 0, none⟩))), (24, some (.agg #[vU64 spans1.a0.a0, vU64 spans1.a0.a1, vU64 spans1.a1.a0, vU64 spans1.a1.a1, vU64 spans1.a2.a0, vU64 spans1.a2.a1])), (25, some (vI (0 : Int))), (9, some (.pointer (some ⟨b2, 0, none⟩)))]) (own' := [some (cellsR b_m 72 [vm1, vm2]), some (rowsX u8S true vm2 vsm1 m.b none), some (cellsR b2 58 [vU64 spans1.a0.a0, vU64 spans1.a0.a1])]) (shr' := [Fact.sl RegionS vm1 m.l]) [0, 24, 25, 9] [0, 1, 2] [0] rfl rfl rfl rfl ?_)
   refine Tk_seq (Tk_region (Tops_step rfl (OpT_move rfl rfl rfl rfl) ?_))
   refine Tops_step rfl (OpT_indexC rfl rfl rfl rfl rfl arrF58 (by decide)) ?_
   refine Tops_step rfl (OpT_loadC rfl rfl rfl rfl tyF22 (i := 2) rfl rfl) ?_
   refine Tops_step rfl (OpT_indexC rfl rfl rfl rfl rfl arrF58 (by decide)) ?_
   refine Tops_step rfl (OpT_loadC rfl rfl rfl rfl tyF22 (i := 2) rfl rfl) ?_
   obtain ⟨has1, hx4, h⟩ := ob_e h
   refine Tops_exP rfl (OpT_callP [3, 4, 2] (w_gmem_Mem_Has hx4) [0, 1] [0] rfl rfl rfl rfl rfl callee36 rfl rfl rfl rfl rfl) ?_
   rintro _ ⟨_, _, _, ⟨rfl, rfl, rfl⟩, rfl⟩
   refine Tops_step rfl (OpT_not rfl rfl rfl rfl) ?_
   refine Tops_nil (Tk_wkS (fr' := [(0, some (.pointer (some ⟨b_m, 0, none⟩))), (24, some (.agg #[vU64 spans1.a0.a0, vU64 spans1.a0.a1, vU64 spans1.a1.a0, vU64 spans1.a1.a1, vU64 spans1.a2.a0, vU64 spans1.a2.a1])), (25, some (vI (0 : Int))), (34, some (vB (!has1)))]) (own' := [some (cellsR b_m 72 [vm1, vm2]), some (rowsX u8S true vm2 vsm1 m.b none)]) (shr' := [Fact.sl RegionS vm1 m.l]) [0, 24, 25, 34] [0, 1] [0] rfl rfl rfl rfl ?_)
   rcases Bool.eq_false_or_eq_true ((!has1)) with hg3 | hg3
   ·replace h := br_t hg3 h
    refine Tk_condT (congrArg (fun b => some (Value.bool b)) hg3) ?_
    refine Tk_seq (Tk_region (Tops_step rfl (OpT_assign rfl rfl rfl rfl) ?_))
    refine Tops_nil (Tk_wkS (fr' := [(4, some (vI (5 : Int)))]) (own' := [some (cellsR b_m 72 [vm1, vm2]), some (rowsX u8S true vm2 vsm1 m.b none)]) (shr' := [Fact.sl RegionS vm1 m.l]) [4] [0, 1] [0] rfl rfl rfl rfl ?_)
    obtain rfl := Option.some.inj h
    exact Tk_retV rfl rfl (resA (vs := [vI (5 : Int)]) rfl ⟨rfl, trivial⟩) [0, 1] [] rfl rfl rfl ⟨rfl, rfl, rfl⟩
   ·replace h := br_f hg3 h
    refine Tk_condF (congrArg (fun b => some (Value.bool b)) hg3) ?_
    refine Tk_skip (Tk_blk (Tk_region (Tops_step rfl (OpT_bin rfl rfl rfl rfl rfl (bin_add_i (a := (0 : Int)) (b := (1 : Int)))) ?_)))
    refine Tops_step rfl (OpT_move rfl rfl rfl rfl) ?_
    refine Tops_nil (Tk_wkS (fr' := [(0, some (.pointer (some ⟨b_m, 0, none⟩))), (24, some (.agg #[vU64 spans1.a0.a0, vU64 spans1.a0.a1, vU64 spans1.a1.a0, vU64 spans1.a1.a1, vU64 spans1.a2.a0, vU64 spans1.a2.a1])), (25, some (vI (1 : Int)))]) (own' := [some (cellsR b_m 72 [vm1, vm2]), some (rowsX u8S true vm2 vsm1 m.b none)]) (shr' := [Fact.sl RegionS vm1 m.l]) [0, 24, 25] [0, 1] [0] rfl rfl rfl rfl ?_)
    refine Tk_round ?_
    refine Tk_seq (Tk_region (Tops_step rfl (OpT_bin rfl rfl rfl rfl rfl (bin_lss_i (a := (1 : Int)) (b := (3 : Int)))) ?_))
    refine Tops_nil (Tk_seq (Tk_condT rfl ?_))
    refine Tk_skip (Tk_seq (Tk_block (Tk_seq (Tk_region (Tops_step rfl (OpT_idxKA (cs := [vU64 spans1.a0.a0, vU64 spans1.a0.a1, vU64 spans1.a1.a0, vU64 spans1.a1.a1, vU64 spans1.a2.a0, vU64 spans1.a2.a1]) (vs := [vU64 spans1.a1.a0, vU64 spans1.a1.a1]) rfl rfl rfl rfl rfl arrF59 tyF58 (by decide) rfl) ?_)))))
    refine Tops_ex rfl (OpT_alloc rfl rfl rfl tyZ58) fun b3 => ?_
    refine Tops_step rfl (OpT_storeC (cs' := [vU64 spans1.a1.a0, vU64 spans1.a1.a1]) rfl rfl rfl rfl tyF58 (i := 2) rfl rfl rfl (one_of rfl) rfl) ?_
    refine Tops_nil (Tk_wkS (fr' := [(0, some (.pointer (some ⟨b_m, 0, none⟩))), (24, some (.agg #[vU64 spans1.a0.a0, vU64 spans1.a0.a1, vU64 spans1.a1.a0, vU64 spans1.a1.a1, vU64 spans1.a2.a0, vU64 spans1.a2.a1])), (25, some (vI (1 : Int))), (9, some (.pointer (some ⟨b3, 0, none⟩)))]) (own' := [some (cellsR b_m 72 [vm1, vm2]), some (rowsX u8S true vm2 vsm1 m.b none), some (cellsR b3 58 [vU64 spans1.a1.a0, vU64 spans1.a1.a1])]) (shr' := [Fact.sl RegionS vm1 m.l]) [0, 24, 25, 9] [0, 1, 2] [0] rfl rfl rfl rfl ?_)
    refine Tk_seq (Tk_region (Tops_step rfl (OpT_move rfl rfl rfl rfl) ?_))
    refine Tops_step rfl (OpT_indexC rfl rfl rfl rfl rfl arrF58 (by decide)) ?_
    refine Tops_step rfl (OpT_loadC rfl rfl rfl rfl tyF22 (i := 2) rfl rfl) ?_
    refine Tops_step rfl (OpT_indexC rfl rfl rfl rfl rfl arrF58 (by decide)) ?_
    refine Tops_step rfl (OpT_loadC rfl rfl rfl rfl tyF22 (i := 2) rfl rfl) ?_
    obtain ⟨has2, hx5, h⟩ := ob_e h
    refine Tops_exP rfl (OpT_callP [3, 4, 2] (w_gmem_Mem_Has hx5) [0, 1] [0] rfl rfl rfl rfl rfl callee36 rfl rfl rfl rfl rfl) ?_
    rintro _ ⟨_, _, _, ⟨rfl, rfl, rfl⟩, rfl⟩
    refine Tops_step rfl (OpT_not rfl rfl rfl rfl) ?_
    refine Tops_nil (Tk_wkS (fr' := [(0, some (.pointer (some ⟨b_m, 0, none⟩))), (24, some (.agg #[vU64 spans1.a0.a0, vU64 spans1.a0.a1, vU64 spans1.a1.a0, vU64 spans1.a1.a1, vU64 spans1.a2.a0, vU64 spans1.a2.a1])), (25, some (vI (1 : Int))), (34, some (vB (!has2)))]) (own' := [some (cellsR b_m 72 [vm1, vm2]), some (rowsX u8S true vm2 vsm1 m.b none)]) (shr' := [Fact.sl RegionS vm1 m.l]) [0, 24, 25, 34] [0, 1] [0] rfl rfl rfl rfl ?_)
    rcases Bool.eq_false_or_eq_true ((!has2)) with hg4 | hg4
    ·replace h := br_t hg4 h
     refine Tk_condT (congrArg (fun b => some (Value.bool b)) hg4) ?_
     refine Tk_seq (Tk_region (Tops_step rfl (OpT_assign rfl rfl rfl rfl) ?_))
     refine Tops_nil (Tk_wkS (fr' := [(4, some (vI (5 : Int)))]) (own' := [some (cellsR b_m 72 [vm1, vm2]), some (rowsX u8S true vm2 vsm1 m.b none)]) (shr' := [Fact.sl RegionS vm1 m.l]) [4] [0, 1] [0] rfl rfl rfl rfl ?_)
     obtain rfl := Option.some.inj h
     exact Tk_retV rfl rfl (resA (vs := [vI (5 : Int)]) rfl ⟨rfl, trivial⟩) [0, 1] [] rfl rfl rfl ⟨rfl, rfl, rfl⟩
    ·replace h := br_f hg4 h
     refine Tk_condF (congrArg (fun b => some (Value.bool b)) hg4) ?_
     refine Tk_skip (Tk_blk (Tk_region (Tops_step rfl (OpT_bin rfl rfl rfl rfl rfl (bin_add_i (a := (1 : Int)) (b := (1 : Int)))) ?_)))
     refine Tops_step rfl (OpT_move rfl rfl rfl rfl) ?_
     refine Tops_nil (Tk_wkS (fr' := [(0, some (.pointer (some ⟨b_m, 0, none⟩))), (24, some (.agg #[vU64 spans1.a0.a0, vU64 spans1.a0.a1, vU64 spans1.a1.a0, vU64 spans1.a1.a1, vU64 spans1.a2.a0, vU64 spans1.a2.a1])), (25, some (vI (2 : Int)))]) (own' := [some (cellsR b_m 72 [vm1, vm2]), some (rowsX u8S true vm2 vsm1 m.b none)]) (shr' := [Fact.sl RegionS vm1 m.l]) [0, 24, 25] [0, 1] [0] rfl rfl rfl rfl ?_)
     refine Tk_round ?_
     refine Tk_seq (Tk_region (Tops_step rfl (OpT_bin rfl rfl rfl rfl rfl (bin_lss_i (a := (2 : Int)) (b := (3 : Int)))) ?_))
     refine Tops_nil (Tk_seq (Tk_condT rfl ?_))
     refine Tk_skip (Tk_seq (Tk_block (Tk_seq (Tk_region (Tops_step rfl (OpT_idxKA (cs := [vU64 spans1.a0.a0, vU64 spans1.a0.a1, vU64 spans1.a1.a0, vU64 spans1.a1.a1, vU64 spans1.a2.a0, vU64 spans1.a2.a1]) (vs := [vU64 spans1.a2.a0, vU64 spans1.a2.a1]) rfl rfl rfl rfl rfl arrF59 tyF58 (by decide) rfl) ?_)))))
     refine Tops_ex rfl (OpT_alloc rfl rfl rfl tyZ58) fun b4 => ?_
     refine Tops_step rfl (OpT_storeC (cs' := [vU64 spans1.a2.a0, vU64 spans1.a2.a1]) rfl rfl rfl rfl tyF58 (i := 2) rfl rfl rfl (one_of rfl) rfl) ?_
     refine Tops_nil (Tk_wkS (fr' := [(0, some (.pointer (some ⟨b_m, 0, none⟩))), (24, some (.agg #[vU64 spans1.a0.a0, vU64 spans1.a0.a1, vU64 spans1.a1.a0, vU64 spans1.a1.a1, vU64 spans1.a2.a0, vU64 spans1.a2.a1])), (25, some (vI (2 : Int))), (9, some (.pointer (some ⟨b4, 0, none⟩)))]) (own' := [some (cellsR b_m 72 [vm1, vm2]), some (rowsX u8S true vm2 vsm1 m.b none), some (cellsR b4 58 [vU64 spans1.a2.a0, vU64 spans1.a2.a1])]) (shr' := [Fact.sl RegionS vm1 m.l]) [0, 24, 25, 9] [0, 1, 2] [0] rfl rfl rfl rfl ?_)
     refine Tk_seq (Tk_region (Tops_step rfl (OpT_move rfl rfl rfl rfl) ?_))
     refine Tops_step rfl (OpT_indexC rfl rfl rfl rfl rfl arrF58 (by decide)) ?_
     refine Tops_step rfl (OpT_loadC rfl rfl rfl rfl tyF22 (i := 2) rfl rfl) ?_
     refine Tops_step rfl (OpT_indexC rfl rfl rfl rfl rfl arrF58 (by decide)) ?_
     refine Tops_step rfl (OpT_loadC rfl rfl rfl rfl tyF22 (i := 2) rfl rfl) ?_
     obtain ⟨has3, hx6, h⟩ := ob_e h
     refine Tops_exP rfl (OpT_callP [3, 4, 2] (w_gmem_Mem_Has hx6) [0, 1] [0] rfl rfl rfl rfl rfl callee36 rfl rfl rfl rfl rfl) ?_
     rintro _ ⟨_, _, _, ⟨rfl, rfl, rfl⟩, rfl⟩
     refine Tops_step rfl (OpT_not rfl rfl rfl rfl) ?_
     refine Tops_nil (Tk_wkS (fr' := [(0, some (.pointer (some ⟨b_m, 0, none⟩))), (24, some (.agg #[vU64 spans1.a0.a0, vU64 spans1.a0.a1, vU64 spans1.a1.a0, vU64 spans1.a1.a1, vU64 spans1.a2.a0, vU64 spans1.a2.a1])), (25, some (vI (2 : Int))), (34, some (vB (!has3)))]) (own' := [some (cellsR b_m 72 [vm1, vm2]), some (rowsX u8S true vm2 vsm1 m.b none)]) (shr' := [Fact.sl RegionS vm1 m.l]) [0, 24, 25, 34] [0, 1] [0] rfl rfl rfl rfl ?_)
     rcases Bool.eq_false_or_eq_true ((!has3)) with hg5 | hg5
     ·replace h := br_t hg5 h
      refine Tk_condT (congrArg (fun b => some (Value.bool b)) hg5) ?_
      refine Tk_seq (Tk_region (Tops_step rfl (OpT_assign rfl rfl rfl rfl) ?_))
      refine Tops_nil (Tk_wkS (fr' := [(4, some (vI (5 : Int)))]) (own' := [some (cellsR b_m 72 [vm1, vm2]), some (rowsX u8S true vm2 vsm1 m.b none)]) (shr' := [Fact.sl RegionS vm1 m.l]) [4] [0, 1] [0] rfl rfl rfl rfl ?_)
      obtain rfl := Option.some.inj h
      exact Tk_retV rfl rfl (resA (vs := [vI (5 : Int)]) rfl ⟨rfl, trivial⟩) [0, 1] [] rfl rfl rfl ⟨rfl, rfl, rfl⟩
     ·replace h := br_f hg5 h
      refine Tk_condF (congrArg (fun b => some (Value.bool b)) hg5) ?_
      refine Tk_skip (Tk_blk (Tk_region (Tops_step rfl (OpT_bin rfl rfl rfl rfl rfl (bin_add_i (a := (2 : Int)) (b := (1 : Int)))) ?_)))
      refine Tops_step rfl (OpT_move rfl rfl rfl rfl) ?_
      refine Tops_nil (Tk_wkS (fr' := [(0, some (.pointer (some ⟨b_m, 0, none⟩))), (24, some (.agg #[vU64 spans1.a0.a0, vU64 spans1.a0.a1, vU64 spans1.a1.a0, vU64 spans1.a1.a1, vU64 spans1.a2.a0, vU64 spans1.a2.a1])), (25, some (vI (3 : Int)))]) (own' := [some (cellsR b_m 72 [vm1, vm2]), some (rowsX u8S true vm2 vsm1 m.b none)]) (shr' := [Fact.sl RegionS vm1 m.l]) [0, 24, 25] [0, 1] [0] rfl rfl rfl rfl ?_)
      refine Tk_round ?_
      refine Tk_seq (Tk_region (Tops_step rfl (OpT_bin rfl rfl rfl rfl rfl (bin_lss_i (a := (3 : Int)) (b := (3 : Int)))) ?_))
      refine Tops_nil (Tk_seq (Tk_condF rfl ?_))
      refine Tk_exit _ rfl ?_
      refine Tk_seq (Tk_region (Tops_step rfl (OpT_assign rfl rfl rfl rfl) ?_))
      refine Tops_nil (Tk_wkS (fr' := [(4, some (vI (0 : Int)))]) (own' := [some (cellsR b_m 72 [vm1, vm2]), some (rowsX u8S true vm2 vsm1 m.b none)]) (shr' := [Fact.sl RegionS vm1 m.l]) [4] [0, 1] [0] rfl rfl rfl rfl ?_)
      obtain rfl := Option.some.inj h
      exact Tk_retV rfl rfl (resA (vs := [vI (0 : Int)]) rfl ⟨rfl, trivial⟩) [0, 1] [] rfl rfl rfl ⟨rfl, rfl, rfl⟩

set_option maxRecDepth 100000 in
set_option maxHeartbeats 4000000 in
theorem w_gmem_Mem_maden0  {r : Bool} (h : gmem_Mem_maden0 = some r) :
  Ctr Try.prog 43 #[.pointer none] [] []
   (fun rv own shr => rv = vB r ∧ own = [] ∧ shr = []) := by
 unfold gmem_Mem_maden0 at h
 refine Ctr.mk (args := [.pointer none]) Try.func43 rfl rfl (fun R0 w0 B => ?_)
 refine Tk_seq (Tk_region (Tops_step rfl (OpT_assign rfl rfl rfl rfl) ?_))
 refine Tops_nil (Tk_wkS (fr' := [(0, some (.pointer none))]) (own' := []) (shr' := []) [0] [] [] rfl rfl rfl rfl ?_)
 refine Tk_seq (Tk_region (Tops_step rfl (OpT_move rfl rfl rfl rfl) ?_))
 refine Tops_step rfl (OpT_ptrNil rfl rfl rfl (.inr rfl) rfl rfl ptrF40) ?_
 refine Tops_step rfl (OpT_move rfl rfl rfl rfl) ?_
 refine Tops_no rfl rfl rfl rfl rfl ?_
 refine Tops_no rfl rfl rfl rfl rfl ?_
 refine Tops_no rfl rfl rfl rfl rfl ?_
 refine Tops_no rfl rfl rfl rfl rfl ?_
 refine Tops_no rfl rfl rfl rfl rfl ?_
 refine Tops_step rfl (OpT_pickF rfl rfl rfl rfl rfl) ?_
 refine Tops_step rfl (OpT_assign rfl rfl rfl rfl) ?_
 refine Tops_nil (Tk_wkS (fr' := [(2, some (vB false))]) (own' := []) (shr' := []) [2] [] [] rfl rfl rfl rfl ?_)
 obtain rfl := Option.some.inj h
 exact Tk_retV rfl rfl (resA (vs := [vB false]) rfl ⟨rfl, trivial⟩) [] [] rfl rfl rfl ⟨rfl, rfl, rfl⟩

set_option maxRecDepth 100000 in
set_option maxHeartbeats 4000000 in
theorem w_gmem_Mem_Readn0 {atp1 : UInt64} {np2 : Int} {r : ((List UInt8) × Int)} (h : gmem_Mem_Readn0 atp1 np2 = some r) :
  Ctr Try.prog 35 #[.pointer none, vU64 atp1, vI np2] [] []
   (fun rv own shr => ∃ (w1 : Value), rv = .tuple #[w1, vI r.2] ∧ own = [(rowS u8S w1 r.1)] ∧ shr = []) := by
 unfold gmem_Mem_Readn0 at h
 refine Ctr.mk (args := [.pointer none, vU64 atp1, vI np2]) Try.func35 rfl rfl (fun R0 w0 B => ?_)
 refine Tk_seq (Tk_region (Tops_step rfl (OpT_assign rfl rfl rfl rfl) ?_))
 refine Tops_step rfl (OpT_assign rfl rfl rfl rfl) ?_
 refine Tops_nil (Tk_wkS (fr' := [(0, some (.pointer none)), (1, some (vU64 atp1)), (2, some (vI np2))]) (own' := []) (shr' := []) [0, 1, 2] [] [] rfl rfl rfl rfl ?_)
 refine Tk_seq (Tk_seq (Tk_region (Tops_step rfl (OpT_move rfl rfl rfl rfl) ?_)))
 obtain ⟨made1, hx1, h⟩ := ob_e h
 refine Tops_exP rfl (OpT_call (w_gmem_Mem_maden0 hx1) [] [] rfl rfl rfl rfl rfl callee43 rfl rfl rfl rfl) ?_
 rintro _ ⟨_, _, _, ⟨rfl, rfl, rfl⟩, rfl⟩
 refine Tops_step rfl (OpT_not rfl rfl rfl rfl) ?_
 refine Tops_nil (Tk_wkS (fr' := [(0, some (.pointer none)), (1, some (vU64 atp1)), (2, some (vI np2)), (11, some (vB (!made1)))]) (own' := []) (shr' := []) [0, 1, 2, 11] [] [] rfl rfl rfl rfl ?_)
 refine Tk_condT (congrArg (fun b => some (Value.bool b)) (congrArg (!·) (Option.some.inj (show some false = some made1 from hx1)).symm)) ?_
 refine Tk_seq (Tk_region (Tops_step rfl (OpT_assign rfl rfl rfl rfl) ?_))
 refine Tops_step rfl (OpT_assign rfl rfl rfl rfl) ?_
 refine Tops_nil (Tk_wkS (fr' := [(6, some (.slice none 0 0)), (7, some (vI (1 : Int)))]) (own' := []) (shr' := []) [6, 7] [] [] rfl rfl rfl rfl ?_)
 refine Tk_nilrow u8S ?_
 obtain rfl := Option.some.inj h
 exact Tk_retV rfl rfl (resA (vs := [.slice none 0 0, vI (1 : Int)]) rfl ⟨rfl, rfl, trivial⟩) [0] [] rfl rfl rfl ⟨(.slice none 0 0), rfl, rfl, rfl⟩

set_option maxRecDepth 100000 in
set_option maxHeartbeats 4000000 in
theorem w_gmem_Mem_Hasn0 {atp1 : UInt64} {np2 : UInt64} {r : Bool} (h : gmem_Mem_Hasn0 atp1 np2 = some r) :
  Ctr Try.prog 36 #[.pointer none, vU64 atp1, vU64 np2] [] []
   (fun rv own shr => rv = vB r ∧ own = [] ∧ shr = []) := by
 unfold gmem_Mem_Hasn0 at h
 refine Ctr.mk (args := [.pointer none, vU64 atp1, vU64 np2]) Try.func36 rfl rfl (fun R0 w0 B => ?_)
 refine Tk_seq (Tk_region (Tops_step rfl (OpT_assign rfl rfl rfl rfl) ?_))
 refine Tops_nil (Tk_wkS (fr' := [(0, some (.pointer none)), (1, some (vU64 atp1)), (2, some (vU64 np2))]) (own' := []) (shr' := []) [0, 1, 2] [] [] rfl rfl rfl rfl ?_)
 refine Tk_seq (Tk_region (Tops_step rfl (OpT_move rfl rfl rfl rfl) ?_))
 obtain ⟨made1, hx1, h⟩ := ob_e h
 refine Tops_exP rfl (OpT_call (w_gmem_Mem_maden0 hx1) [] [] rfl rfl rfl rfl rfl callee43 rfl rfl rfl rfl) ?_
 rintro _ ⟨_, _, _, ⟨rfl, rfl, rfl⟩, rfl⟩
 refine Tops_step rfl (OpT_move rfl rfl rfl rfl) ?_
 refine Tops_no rfl rfl (congrArg (fun b => some (Value.bool b)) (Option.some.inj (show some false = some made1 from hx1)).symm) rfl rfl ?_
 refine Tops_no rfl rfl (congrArg (fun b => some (Value.bool b)) (Option.some.inj (show some false = some made1 from hx1)).symm) rfl rfl ?_
 refine Tops_no rfl rfl (congrArg (fun b => some (Value.bool b)) (Option.some.inj (show some false = some made1 from hx1)).symm) rfl rfl ?_
 refine Tops_no rfl rfl (congrArg (fun b => some (Value.bool b)) (Option.some.inj (show some false = some made1 from hx1)).symm) rfl rfl ?_
 refine Tops_no rfl rfl (congrArg (fun b => some (Value.bool b)) (Option.some.inj (show some false = some made1 from hx1)).symm) rfl rfl ?_
 refine Tops_step rfl (OpT_pickF rfl rfl rfl (congrArg (fun b => some (Value.bool b)) (Option.some.inj (show some false = some made1 from hx1)).symm) rfl) ?_
 refine Tops_step rfl (OpT_assign rfl rfl rfl rfl) ?_
 refine Tops_nil (Tk_wkS (fr' := [(6, some (vB false))]) (own' := []) (shr' := []) [6] [] [] rfl rfl rfl rfl ?_)
 obtain rfl := Option.some.inj h
 exact Tk_retV rfl rfl (resA (vs := [vB false]) rfl ⟨rfl, trivial⟩) [] [] rfl rfl rfl ⟨rfl, rfl, rfl⟩

set_option maxRecDepth 100000 in
set_option maxHeartbeats 4000000 in
theorem w_layout_Fitsn0 {rp1 : Rings} {r : Int} (h : layout_Fitsn0 rp1 = some r) :
  Ctr Try.prog 17 #[.pointer none, .agg #[vB rp1.Packed, vI rp1.Size, vU64 rp1.Desc, vU64 rp1.Driver, vU64 rp1.Device]] [] []
   (fun rv own shr => rv = vI r ∧ own = [] ∧ shr = []) := by
 unfold layout_Fitsn0 at h
 refine Ctr.mk (args := [.pointer none, .agg #[vB rp1.Packed, vI rp1.Size, vU64 rp1.Desc, vU64 rp1.Driver, vU64 rp1.Device]]) Try.func17 rfl rfl (fun R0 w0 B => ?_)
 refine Tk_seq (Tk_region (Tops_ex rfl (OpT_box rfl rfl rfl rfl) fun b1 => ?_))
 refine Tops_step rfl (OpT_assign rfl rfl rfl rfl) ?_
 refine Tops_nil (Tk_wkS (fr' := [(0, some (.pointer none)), (3, some (.pointer (some ⟨b1, 0, none⟩)))]) (own' := [some (cellsR b1 27 [vB rp1.Packed, vI rp1.Size, vU64 rp1.Desc, vU64 rp1.Driver, vU64 rp1.Device])]) (shr' := []) [0, 3] [0] [] rfl rfl rfl rfl ?_)
 refine Tk_seq (Tk_seq (Tk_region (Tops_step rfl (OpT_move rfl rfl rfl rfl) ?_)))
 obtain ⟨read1, hx1, h⟩ := ob_e h
 refine Tops_exP rfl (OpT_call (w_gmem_Mem_Readn0 hx1) [] [] rfl rfl rfl rfl rfl callee35 rfl rfl rfl rfl) ?_
 rintro _ ⟨_, _, _, ⟨v1, rfl, rfl, rfl⟩, rfl⟩
 refine Tops_step rfl (OpT_move rfl rfl rfl rfl) ?_
 refine Tops_step rfl (OpT_extract rfl rfl rfl rfl rfl) ?_
 refine Tops_step rfl (OpT_extract rfl rfl rfl rfl rfl) ?_
 refine Tops_step rfl (OpT_assign rfl rfl rfl rfl) ?_
 refine Tops_step rfl (OpT_assign rfl rfl rfl rfl) ?_
 refine Tops_nil (Tk_wkS (fr' := [(0, some (.pointer none)), (3, some (.pointer (some ⟨b1, 0, none⟩))), (6, some (vI read1.2))]) (own' := [some (cellsR b1 27 [vB rp1.Packed, vI rp1.Size, vU64 rp1.Desc, vU64 rp1.Driver, vU64 rp1.Device])]) (shr' := []) [0, 3, 6] [0] [] rfl rfl rfl rfl ?_)
 refine Tk_seq (Tk_region (Tops_step rfl (OpT_move rfl rfl rfl rfl) ?_))
 refine Tops_step rfl (OpT_bin rfl rfl rfl rfl rfl (bin_eql_i (a := read1.2) (b := (1 : Int)))) ?_
 refine Tops_nil (Tk_wkS (fr' := [(0, some (.pointer none)), (3, some (.pointer (some ⟨b1, 0, none⟩))), (6, some (vI read1.2)), (16, some (vB (read1.2 == (1 : Int))))]) (own' := [some (cellsR b1 27 [vB rp1.Packed, vI rp1.Size, vU64 rp1.Desc, vU64 rp1.Driver, vU64 rp1.Device])]) (shr' := []) [0, 3, 6, 16] [0] [] rfl rfl rfl rfl ?_)
 rcases Bool.eq_false_or_eq_true (read1.2 == (1 : Int)) with hg1 | hg1
 ·replace h := br_t hg1 h
  refine Tk_condT (congrArg (fun b => some (Value.bool b)) hg1) ?_
  refine Tk_seq (Tk_region (Tops_step rfl (OpT_move rfl rfl rfl rfl) ?_))
  refine Tops_step rfl (OpT_assign rfl rfl rfl rfl) ?_
  refine Tops_nil (Tk_wkS (fr' := [(4, some (vI read1.2))]) (own' := []) (shr' := []) [4] [] [] rfl rfl rfl rfl ?_)
  obtain rfl := Option.some.inj h
  exact Tk_retV rfl rfl (resA (vs := [vI read1.2]) rfl ⟨rfl, trivial⟩) [] [] rfl rfl rfl ⟨rfl, rfl, rfl⟩
 ·replace h := br_f hg1 h
  refine Tk_condF (congrArg (fun b => some (Value.bool b)) hg1) ?_
  refine Tk_skip (Tk_seq (Tk_seq (Tk_region (Tops_step rfl (OpT_loadCA (vs := [vB rp1.Packed, vI rp1.Size, vU64 rp1.Desc, vU64 rp1.Driver, vU64 rp1.Device]) rfl rfl rfl rfl tyF27 (i := 0) rfl rfl rfl) ?_))))
  obtain ⟨check1, hx2, h⟩ := ob_e h
  refine Tops_exP rfl (OpT_call (w_layout_Check hx2) [] [] rfl rfl rfl rfl rfl callee13 rfl rfl rfl rfl) ?_
  rintro _ ⟨_, _, _, ⟨rfl, rfl, rfl⟩, rfl⟩
  refine Tops_step rfl (OpT_assign rfl rfl rfl rfl) ?_
  refine Tops_nil (Tk_wkS (fr' := [(0, some (.pointer none)), (3, some (.pointer (some ⟨b1, 0, none⟩))), (7, some (vI check1))]) (own' := [some (cellsR b1 27 [vB rp1.Packed, vI rp1.Size, vU64 rp1.Desc, vU64 rp1.Driver, vU64 rp1.Device])]) (shr' := []) [0, 3, 7] [0] [] rfl rfl rfl rfl ?_)
  refine Tk_seq (Tk_region (Tops_step rfl (OpT_move rfl rfl rfl rfl) ?_))
  refine Tops_step rfl (OpT_bin rfl rfl rfl rfl rfl (bin_neq_i (a := check1) (b := (0 : Int)))) ?_
  refine Tops_nil (Tk_wkS (fr' := [(0, some (.pointer none)), (3, some (.pointer (some ⟨b1, 0, none⟩))), (7, some (vI check1)), (21, some (vB (check1 != (0 : Int))))]) (own' := [some (cellsR b1 27 [vB rp1.Packed, vI rp1.Size, vU64 rp1.Desc, vU64 rp1.Driver, vU64 rp1.Device])]) (shr' := []) [0, 3, 7, 21] [0] [] rfl rfl rfl rfl ?_)
  rcases Bool.eq_false_or_eq_true (check1 != (0 : Int)) with hg2 | hg2
  ·replace h := br_t hg2 h
   refine Tk_condT (congrArg (fun b => some (Value.bool b)) hg2) ?_
   refine Tk_seq (Tk_region (Tops_step rfl (OpT_move rfl rfl rfl rfl) ?_))
   refine Tops_step rfl (OpT_assign rfl rfl rfl rfl) ?_
   refine Tops_nil (Tk_wkS (fr' := [(4, some (vI check1))]) (own' := []) (shr' := []) [4] [] [] rfl rfl rfl rfl ?_)
   obtain rfl := Option.some.inj h
   exact Tk_retV rfl rfl (resA (vs := [vI check1]) rfl ⟨rfl, trivial⟩) [] [] rfl rfl rfl ⟨rfl, rfl, rfl⟩
  ·replace h := br_f hg2 h
   refine Tk_condF (congrArg (fun b => some (Value.bool b)) hg2) ?_
   refine Tk_skip (Tk_seq (Tk_seq (Tk_region (Tops_step rfl (OpT_loadCA (vs := [vB rp1.Packed, vI rp1.Size, vU64 rp1.Desc, vU64 rp1.Driver, vU64 rp1.Device]) rfl rfl rfl rfl tyF27 (i := 0) rfl rfl rfl) ?_))))
   obtain ⟨spans1, hx3, h⟩ := ob_e h
   refine Tops_exP rfl (OpT_call (w_layout_spans hx3) [] [] rfl rfl rfl rfl rfl callee29 rfl rfl rfl rfl) ?_
   rintro _ ⟨_, _, _, ⟨rfl, rfl, rfl⟩, rfl⟩
   refine Tops_step rfl (OpT_move rfl rfl rfl rfl) ?_
   refine Tops_nil (Tk_wkS (fr' := [(0, some (.pointer none)), (24, some (.agg #[vU64 spans1.a0.a0, vU64 spans1.a0.a1, vU64 spans1.a1.a0, vU64 spans1.a1.a1, vU64 spans1.a2.a0, vU64 spans1.a2.a1])), (25, some (vI (0 : Int)))]) (own' := []) (shr' := []) [0, 24, 25] [] [] rfl rfl rfl rfl ?_)
   refine Tk_block (Tk_unroll 3 ?_)
   refine Tk_seq (Tk_region (Tops_step rfl (OpT_bin rfl rfl rfl rfl rfl (bin_lss_i (a := (0 : Int)) (b := (3 : Int)))) ?_))
   refine Tops_nil (Tk_seq (Tk_condT rfl ?_))
   refine Tk_skip (Tk_seq (Tk_block (Tk_seq (Tk_region (Tops_step rfl (OpT_idxKA (cs := [vU64 spans1.a0.a0, vU64 spans1.a0.a1, vU64 spans1.a1.a0, vU64 spans1.a1.a1, vU64 spans1.a2.a0, vU64 spans1.a2.a1]) (vs := [vU64 spans1.a0.a0, vU64 spans1.a0.a1]) rfl rfl rfl rfl rfl arrF59 tyF58 (by decide) rfl) ?_)))))
   refine Tops_ex rfl (OpT_alloc rfl rfl rfl tyZ58) fun b2 => ?_
   refine Tops_step rfl (OpT_storeC (cs' := [vU64 spans1.a0.a0, vU64 spans1.a0.a1]) rfl rfl rfl rfl tyF58 (i := 0) rfl rfl rfl (one_of rfl) rfl) ?_
   refine Tops_nil (Tk_wkS (fr' := [(0, some (.pointer none)), (24, some (.agg #[vU64 spans1.a0.a0, vU64 spans1.a0.a1, vU64 spans1.a1.a0, vU64 spans1.a1.a1, vU64 spans1.a2.a0, vU64 spans1.a2.a1])), (25, some (vI (0 : Int))), (9, some (.pointer (some ⟨b2, 0, none⟩)))]) (own' := [some (cellsR b2 58 [vU64 spans1.a0.a0, vU64 spans1.a0.a1])]) (shr' := []) [0, 24, 25, 9] [0] [] rfl rfl rfl rfl ?_)
   refine Tk_seq (Tk_region (Tops_step rfl (OpT_move rfl rfl rfl rfl) ?_))
   refine Tops_step rfl (OpT_indexC rfl rfl rfl rfl rfl arrF58 (by decide)) ?_
   refine Tops_step rfl (OpT_loadC rfl rfl rfl rfl tyF22 (i := 0) rfl rfl) ?_
   refine Tops_step rfl (OpT_indexC rfl rfl rfl rfl rfl arrF58 (by decide)) ?_
   refine Tops_step rfl (OpT_loadC rfl rfl rfl rfl tyF22 (i := 0) rfl rfl) ?_
   obtain ⟨has1, hx4, h⟩ := ob_e h
   refine Tops_exP rfl (OpT_call (w_gmem_Mem_Hasn0 hx4) [] [] rfl rfl rfl rfl rfl callee36 rfl rfl rfl rfl) ?_
   rintro _ ⟨_, _, _, ⟨rfl, rfl, rfl⟩, rfl⟩
   refine Tops_step rfl (OpT_not rfl rfl rfl rfl) ?_
   refine Tops_nil (Tk_wkS (fr' := [(0, some (.pointer none)), (24, some (.agg #[vU64 spans1.a0.a0, vU64 spans1.a0.a1, vU64 spans1.a1.a0, vU64 spans1.a1.a1, vU64 spans1.a2.a0, vU64 spans1.a2.a1])), (25, some (vI (0 : Int))), (34, some (vB (!has1)))]) (own' := []) (shr' := []) [0, 24, 25, 34] [] [] rfl rfl rfl rfl ?_)
   rcases Bool.eq_false_or_eq_true ((!has1)) with hg3 | hg3
   ·replace h := br_t hg3 h
    refine Tk_condT (congrArg (fun b => some (Value.bool b)) hg3) ?_
    refine Tk_seq (Tk_region (Tops_step rfl (OpT_assign rfl rfl rfl rfl) ?_))
    refine Tops_nil (Tk_wkS (fr' := [(4, some (vI (5 : Int)))]) (own' := []) (shr' := []) [4] [] [] rfl rfl rfl rfl ?_)
    obtain rfl := Option.some.inj h
    exact Tk_retV rfl rfl (resA (vs := [vI (5 : Int)]) rfl ⟨rfl, trivial⟩) [] [] rfl rfl rfl ⟨rfl, rfl, rfl⟩
   ·replace h := br_f hg3 h
    refine Tk_condF (congrArg (fun b => some (Value.bool b)) hg3) ?_
    refine Tk_skip (Tk_blk (Tk_region (Tops_step rfl (OpT_bin rfl rfl rfl rfl rfl (bin_add_i (a := (0 : Int)) (b := (1 : Int)))) ?_)))
    refine Tops_step rfl (OpT_move rfl rfl rfl rfl) ?_
    refine Tops_nil (Tk_wkS (fr' := [(0, some (.pointer none)), (24, some (.agg #[vU64 spans1.a0.a0, vU64 spans1.a0.a1, vU64 spans1.a1.a0, vU64 spans1.a1.a1, vU64 spans1.a2.a0, vU64 spans1.a2.a1])), (25, some (vI (1 : Int)))]) (own' := []) (shr' := []) [0, 24, 25] [] [] rfl rfl rfl rfl ?_)
    refine Tk_round ?_
    refine Tk_seq (Tk_region (Tops_step rfl (OpT_bin rfl rfl rfl rfl rfl (bin_lss_i (a := (1 : Int)) (b := (3 : Int)))) ?_))
    refine Tops_nil (Tk_seq (Tk_condT rfl ?_))
    refine Tk_skip (Tk_seq (Tk_block (Tk_seq (Tk_region (Tops_step rfl (OpT_idxKA (cs := [vU64 spans1.a0.a0, vU64 spans1.a0.a1, vU64 spans1.a1.a0, vU64 spans1.a1.a1, vU64 spans1.a2.a0, vU64 spans1.a2.a1]) (vs := [vU64 spans1.a1.a0, vU64 spans1.a1.a1]) rfl rfl rfl rfl rfl arrF59 tyF58 (by decide) rfl) ?_)))))
    refine Tops_ex rfl (OpT_alloc rfl rfl rfl tyZ58) fun b3 => ?_
    refine Tops_step rfl (OpT_storeC (cs' := [vU64 spans1.a1.a0, vU64 spans1.a1.a1]) rfl rfl rfl rfl tyF58 (i := 0) rfl rfl rfl (one_of rfl) rfl) ?_
    refine Tops_nil (Tk_wkS (fr' := [(0, some (.pointer none)), (24, some (.agg #[vU64 spans1.a0.a0, vU64 spans1.a0.a1, vU64 spans1.a1.a0, vU64 spans1.a1.a1, vU64 spans1.a2.a0, vU64 spans1.a2.a1])), (25, some (vI (1 : Int))), (9, some (.pointer (some ⟨b3, 0, none⟩)))]) (own' := [some (cellsR b3 58 [vU64 spans1.a1.a0, vU64 spans1.a1.a1])]) (shr' := []) [0, 24, 25, 9] [0] [] rfl rfl rfl rfl ?_)
    refine Tk_seq (Tk_region (Tops_step rfl (OpT_move rfl rfl rfl rfl) ?_))
    refine Tops_step rfl (OpT_indexC rfl rfl rfl rfl rfl arrF58 (by decide)) ?_
    refine Tops_step rfl (OpT_loadC rfl rfl rfl rfl tyF22 (i := 0) rfl rfl) ?_
    refine Tops_step rfl (OpT_indexC rfl rfl rfl rfl rfl arrF58 (by decide)) ?_
    refine Tops_step rfl (OpT_loadC rfl rfl rfl rfl tyF22 (i := 0) rfl rfl) ?_
    obtain ⟨has2, hx5, h⟩ := ob_e h
    refine Tops_exP rfl (OpT_call (w_gmem_Mem_Hasn0 hx5) [] [] rfl rfl rfl rfl rfl callee36 rfl rfl rfl rfl) ?_
    rintro _ ⟨_, _, _, ⟨rfl, rfl, rfl⟩, rfl⟩
    refine Tops_step rfl (OpT_not rfl rfl rfl rfl) ?_
    refine Tops_nil (Tk_wkS (fr' := [(0, some (.pointer none)), (24, some (.agg #[vU64 spans1.a0.a0, vU64 spans1.a0.a1, vU64 spans1.a1.a0, vU64 spans1.a1.a1, vU64 spans1.a2.a0, vU64 spans1.a2.a1])), (25, some (vI (1 : Int))), (34, some (vB (!has2)))]) (own' := []) (shr' := []) [0, 24, 25, 34] [] [] rfl rfl rfl rfl ?_)
    rcases Bool.eq_false_or_eq_true ((!has2)) with hg4 | hg4
    ·replace h := br_t hg4 h
     refine Tk_condT (congrArg (fun b => some (Value.bool b)) hg4) ?_
     refine Tk_seq (Tk_region (Tops_step rfl (OpT_assign rfl rfl rfl rfl) ?_))
     refine Tops_nil (Tk_wkS (fr' := [(4, some (vI (5 : Int)))]) (own' := []) (shr' := []) [4] [] [] rfl rfl rfl rfl ?_)
     obtain rfl := Option.some.inj h
     exact Tk_retV rfl rfl (resA (vs := [vI (5 : Int)]) rfl ⟨rfl, trivial⟩) [] [] rfl rfl rfl ⟨rfl, rfl, rfl⟩
    ·replace h := br_f hg4 h
     refine Tk_condF (congrArg (fun b => some (Value.bool b)) hg4) ?_
     refine Tk_skip (Tk_blk (Tk_region (Tops_step rfl (OpT_bin rfl rfl rfl rfl rfl (bin_add_i (a := (1 : Int)) (b := (1 : Int)))) ?_)))
     refine Tops_step rfl (OpT_move rfl rfl rfl rfl) ?_
     refine Tops_nil (Tk_wkS (fr' := [(0, some (.pointer none)), (24, some (.agg #[vU64 spans1.a0.a0, vU64 spans1.a0.a1, vU64 spans1.a1.a0, vU64 spans1.a1.a1, vU64 spans1.a2.a0, vU64 spans1.a2.a1])), (25, some (vI (2 : Int)))]) (own' := []) (shr' := []) [0, 24, 25] [] [] rfl rfl rfl rfl ?_)
     refine Tk_round ?_
     refine Tk_seq (Tk_region (Tops_step rfl (OpT_bin rfl rfl rfl rfl rfl (bin_lss_i (a := (2 : Int)) (b := (3 : Int)))) ?_))
     refine Tops_nil (Tk_seq (Tk_condT rfl ?_))
     refine Tk_skip (Tk_seq (Tk_block (Tk_seq (Tk_region (Tops_step rfl (OpT_idxKA (cs := [vU64 spans1.a0.a0, vU64 spans1.a0.a1, vU64 spans1.a1.a0, vU64 spans1.a1.a1, vU64 spans1.a2.a0, vU64 spans1.a2.a1]) (vs := [vU64 spans1.a2.a0, vU64 spans1.a2.a1]) rfl rfl rfl rfl rfl arrF59 tyF58 (by decide) rfl) ?_)))))
     refine Tops_ex rfl (OpT_alloc rfl rfl rfl tyZ58) fun b4 => ?_
     refine Tops_step rfl (OpT_storeC (cs' := [vU64 spans1.a2.a0, vU64 spans1.a2.a1]) rfl rfl rfl rfl tyF58 (i := 0) rfl rfl rfl (one_of rfl) rfl) ?_
     refine Tops_nil (Tk_wkS (fr' := [(0, some (.pointer none)), (24, some (.agg #[vU64 spans1.a0.a0, vU64 spans1.a0.a1, vU64 spans1.a1.a0, vU64 spans1.a1.a1, vU64 spans1.a2.a0, vU64 spans1.a2.a1])), (25, some (vI (2 : Int))), (9, some (.pointer (some ⟨b4, 0, none⟩)))]) (own' := [some (cellsR b4 58 [vU64 spans1.a2.a0, vU64 spans1.a2.a1])]) (shr' := []) [0, 24, 25, 9] [0] [] rfl rfl rfl rfl ?_)
     refine Tk_seq (Tk_region (Tops_step rfl (OpT_move rfl rfl rfl rfl) ?_))
     refine Tops_step rfl (OpT_indexC rfl rfl rfl rfl rfl arrF58 (by decide)) ?_
     refine Tops_step rfl (OpT_loadC rfl rfl rfl rfl tyF22 (i := 0) rfl rfl) ?_
     refine Tops_step rfl (OpT_indexC rfl rfl rfl rfl rfl arrF58 (by decide)) ?_
     refine Tops_step rfl (OpT_loadC rfl rfl rfl rfl tyF22 (i := 0) rfl rfl) ?_
     obtain ⟨has3, hx6, h⟩ := ob_e h
     refine Tops_exP rfl (OpT_call (w_gmem_Mem_Hasn0 hx6) [] [] rfl rfl rfl rfl rfl callee36 rfl rfl rfl rfl) ?_
     rintro _ ⟨_, _, _, ⟨rfl, rfl, rfl⟩, rfl⟩
     refine Tops_step rfl (OpT_not rfl rfl rfl rfl) ?_
     refine Tops_nil (Tk_wkS (fr' := [(0, some (.pointer none)), (24, some (.agg #[vU64 spans1.a0.a0, vU64 spans1.a0.a1, vU64 spans1.a1.a0, vU64 spans1.a1.a1, vU64 spans1.a2.a0, vU64 spans1.a2.a1])), (25, some (vI (2 : Int))), (34, some (vB (!has3)))]) (own' := []) (shr' := []) [0, 24, 25, 34] [] [] rfl rfl rfl rfl ?_)
     rcases Bool.eq_false_or_eq_true ((!has3)) with hg5 | hg5
     ·replace h := br_t hg5 h
      refine Tk_condT (congrArg (fun b => some (Value.bool b)) hg5) ?_
      refine Tk_seq (Tk_region (Tops_step rfl (OpT_assign rfl rfl rfl rfl) ?_))
      refine Tops_nil (Tk_wkS (fr' := [(4, some (vI (5 : Int)))]) (own' := []) (shr' := []) [4] [] [] rfl rfl rfl rfl ?_)
      obtain rfl := Option.some.inj h
      exact Tk_retV rfl rfl (resA (vs := [vI (5 : Int)]) rfl ⟨rfl, trivial⟩) [] [] rfl rfl rfl ⟨rfl, rfl, rfl⟩
     ·replace h := br_f hg5 h
      refine Tk_condF (congrArg (fun b => some (Value.bool b)) hg5) ?_
      refine Tk_skip (Tk_blk (Tk_region (Tops_step rfl (OpT_bin rfl rfl rfl rfl rfl (bin_add_i (a := (2 : Int)) (b := (1 : Int)))) ?_)))
      refine Tops_step rfl (OpT_move rfl rfl rfl rfl) ?_
      refine Tops_nil (Tk_wkS (fr' := [(0, some (.pointer none)), (24, some (.agg #[vU64 spans1.a0.a0, vU64 spans1.a0.a1, vU64 spans1.a1.a0, vU64 spans1.a1.a1, vU64 spans1.a2.a0, vU64 spans1.a2.a1])), (25, some (vI (3 : Int)))]) (own' := []) (shr' := []) [0, 24, 25] [] [] rfl rfl rfl rfl ?_)
      refine Tk_round ?_
      refine Tk_seq (Tk_region (Tops_step rfl (OpT_bin rfl rfl rfl rfl rfl (bin_lss_i (a := (3 : Int)) (b := (3 : Int)))) ?_))
      refine Tops_nil (Tk_seq (Tk_condF rfl ?_))
      refine Tk_exit _ rfl ?_
      refine Tk_seq (Tk_region (Tops_step rfl (OpT_assign rfl rfl rfl rfl) ?_))
      refine Tops_nil (Tk_wkS (fr' := [(4, some (vI (0 : Int)))]) (own' := []) (shr' := []) [4] [] [] rfl rfl rfl rfl ?_)
      obtain rfl := Option.some.inj h
      exact Tk_retV rfl rfl (resA (vs := [vI (0 : Int)]) rfl ⟨rfl, trivial⟩) [] [] rfl rfl rfl ⟨rfl, rfl, rfl⟩

set_option maxRecDepth 100000 in
set_option maxHeartbeats 4000000 in
theorem w_kit_LightRegions {l : List Region} {most : UInt64} {vl1 : Value} {r : Bool} (h : kit_LightRegions l most = some r) :
  Ctr Try.prog 18 #[vl1, vU64 most] [] [Fact.sl RegionS vl1 l]
   (fun rv own shr => rv = vB r ∧ own = [] ∧ shr = []) := by
 unfold kit_LightRegions at h
 refine Ctr.mk (args := [vl1, vU64 most]) Try.func18 rfl rfl (fun R0 w0 B => ?_)
 refine Tk_seq (Tk_region (Tops_step rfl (OpT_assign rfl rfl rfl rfl) ?_))
 refine Tops_nil (Tk_wkS (fr' := [(0, some (vl1)), (1, some (vU64 most))]) (own' := []) (shr' := [Fact.sl RegionS vl1 l]) [0, 1] [] [0] rfl rfl rfl rfl ?_)
 refine Tk_seq (Tk_seq (Tk_region (Tops_step rfl (OpT_move rfl rfl rfl rfl) ?_)))
 refine Tops_step rfl (OpT_lenS rfl rfl rfl rfl Try.underlying45 (i := 0) rfl) ?_
 refine Tops_step rfl (OpT_bin rfl rfl rfl rfl rfl (bin_gtr_i (a := len l) (b := (40 : Int)))) ?_
 refine Tops_nil (Tk_wkS (fr' := [(0, some (vl1)), (1, some (vU64 most)), (9, some (vB (decide ((len l) > (40 : Int)))))]) (own' := []) (shr' := [Fact.sl RegionS vl1 l]) [0, 1, 9] [] [0] rfl rfl rfl rfl ?_)
 rcases Bool.eq_false_or_eq_true (decide ((len l) > (40 : Int))) with hg1 | hg1
 ·replace h := br_t hg1 h
  refine Tk_condT (congrArg (fun b => some (Value.bool b)) hg1) ?_
  refine Tk_seq (Tk_region (Tops_step rfl (OpT_assign rfl rfl rfl rfl) ?_))
  refine Tops_nil (Tk_wkS (fr' := [(4, some (vB false))]) (own' := []) (shr' := []) [4] [] [] rfl rfl rfl rfl ?_)
  obtain rfl := Option.some.inj h
  exact Tk_retV rfl rfl (resA (vs := [vB false]) rfl ⟨rfl, trivial⟩) [] [] rfl rfl rfl ⟨rfl, rfl, rfl⟩
 ·replace h := br_f hg1 h
  refine Tk_condF (congrArg (fun b => some (Value.bool b)) hg1) ?_
  refine Tk_skip (Tk_seq (Tk_region (Tops_step rfl (OpT_assign rfl rfl rfl rfl) ?_)))
  refine Tops_nil (Tk_wkS (fr' := [(0, some (vl1)), (1, some (vU64 most)), (5, some (vU64 (0 : UInt64)))]) (own' := []) (shr' := [Fact.sl RegionS vl1 l]) [0, 1, 5] [] [0] rfl rfl rfl rfl ?_)
  refine Tk_seq (Tk_seq (Tk_region (Tops_step rfl (OpT_assign rfl rfl rfl rfl) ?_)))
  refine Tops_nil (Tk_block (Tk_loopS (σ := UInt64 × Int) [0, 1, 5, 6] [] [0] (fun s => ⟨[(0, some (vl1)), (1, some (vU64 most)), (5, some (vU64 s.1)), (6, some (vI s.2))], [], [Fact.sl RegionS vl1 l]⟩) (fun nf1 s => kit_LightRegionsL1 l most nf1 s.1 s.2 = some r) fuel ((0 : UInt64), (0 : Int)) h rfl rfl rfl rfl rfl (fun s h => by cases h) ?_))
  rintro nf1 ⟨sum1, i1⟩ h
  replace h : kit_LightRegionsL1B l most (kit_LightRegionsL1 l most nf1) sum1 i1 = some r := h
  unfold kit_LightRegionsL1B at h
  refine Tk_seq (Tk_seq (Tk_region (Tops_step rfl (OpT_move rfl rfl rfl rfl) ?_)))
  refine Tops_step rfl (OpT_move rfl rfl rfl rfl) ?_
  refine Tops_step rfl (OpT_lenS rfl rfl rfl rfl Try.underlying45 (i := 0) rfl) ?_
  refine Tops_step rfl (OpT_bin rfl rfl rfl rfl rfl (bin_lss_i (a := i1) (b := len l))) ?_
  refine Tops_nil (Tk_wkS (fr' := [(0, some (vl1)), (1, some (vU64 most)), (5, some (vU64 sum1)), (6, some (vI i1)), (13, some (vB (decide (i1 < (len l)))))]) (own' := []) (shr' := [Fact.sl RegionS vl1 l]) [0, 1, 5, 6, 13] [] [0] rfl rfl rfl rfl ?_)
  rcases Bool.eq_false_or_eq_true (decide (i1 < (len l))) with hg2 | hg2
  ·replace h := br_t hg2 h
   refine Tk_condT (congrArg (fun b => some (Value.bool b)) hg2) ?_
   refine Tk_skip (Tk_seq (Tk_block (Tk_region (Tops_step rfl (OpT_move rfl rfl rfl rfl) ?_))))
   refine Tops_step rfl (OpT_move rfl rfl rfl rfl) ?_
   refine Tops_step rfl (OpT_move rfl rfl rfl rfl) ?_
   obtain ⟨r1, hx1, h⟩ := ob_e h
   refine Tops_ex rfl (OpT_idxS rfl rfl rfl rfl rfl slF45 (i := 0) rfl hx1) fun p1 => ?_
   refine Tops_ex rfl (OpT_fieldP (S' := u64S) (y := r1.Len) rfl rfl rfl rfl fldF44x1 (i := 1) rfl (by intro h cs hr; subst hr; rfl)) fun p2 => ?_
   refine Tops_step rfl (OpT_loadP rfl rfl rfl rfl tyF22 (i := 2) rfl rfl) ?_
   refine Tops_step rfl (OpT_min_u64 (u := r1.Len) (v := (1073741824 : UInt64)) rfl rfl rfl rfl rfl) ?_
   refine Tops_step rfl (OpT_bin rfl rfl rfl rfl rfl (bin_add_u64 (a := sum1) (b := minu64 r1.Len (1073741824 : UInt64)))) ?_
   refine Tops_step rfl (OpT_assign rfl rfl rfl rfl) ?_
   refine Tops_nil (Tk_wkS (fr' := [(0, some (vl1)), (1, some (vU64 most)), (5, some (vU64 (sum1 + (minu64 r1.Len (1073741824 : UInt64))))), (6, some (vI i1))]) (own' := []) (shr' := [Fact.sl RegionS vl1 l]) [0, 1, 5, 6] [] [0] rfl rfl rfl rfl ?_)
   refine Tk_blk (Tk_region (Tops_step rfl (OpT_move rfl rfl rfl rfl) ?_))
   refine Tops_step rfl (OpT_bin rfl rfl rfl rfl rfl (bin_add_i (a := i1) (b := (1 : Int)))) ?_
   refine Tops_step rfl (OpT_assign rfl rfl rfl rfl) ?_
   refine Tops_nil (Tk_wkS (fr' := [(0, some (vl1)), (1, some (vU64 most)), (5, some (vU64 (sum1 + (minu64 r1.Len (1073741824 : UInt64))))), (6, some (vI (wi (i1 + (1 : Int)))))]) (own' := []) (shr' := [Fact.sl RegionS vl1 l]) [0, 1, 5, 6] [] [0] rfl rfl rfl rfl ?_)
   exact Tk_backS (sum1 + (minu64 r1.Len (1073741824 : UInt64)), wi (i1 + (1 : Int))) h [0, 1, 5, 6] [] [0] rfl rfl rfl rfl rfl
  ·replace h := br_f hg2 h
   refine Tk_condF (congrArg (fun b => some (Value.bool b)) hg2) ?_
   refine Tk_exit _ rfl ?_
   refine Tk_seq (Tk_region (Tops_step rfl (OpT_move rfl rfl rfl rfl) ?_))
   refine Tops_step rfl (OpT_move rfl rfl rfl rfl) ?_
   refine Tops_step rfl (OpT_bin rfl rfl rfl rfl rfl (bin_leq_u64 (a := sum1) (b := most))) ?_
   refine Tops_step rfl (OpT_assign rfl rfl rfl rfl) ?_
   refine Tops_nil (Tk_wkS (fr' := [(4, some (vB (decide (sum1 ≤ most))))]) (own' := []) (shr' := []) [4] [] [] rfl rfl rfl rfl ?_)
   obtain rfl := Option.some.inj h
   exact Tk_retV rfl rfl (resA (vs := [vB (decide (sum1 ≤ most))]) rfl ⟨rfl, trivial⟩) [] [] rfl rfl rfl ⟨rfl, rfl, rfl⟩

set_option maxRecDepth 100000 in
set_option maxHeartbeats 4000000 in
theorem w_kit_Regions {l : List Region} {vl1 : Value} {r : (List Region)} (h : kit_Regions l = some r) :
  Ctr Try.prog 24 #[vl1] [] [Fact.sl RegionS vl1 l]
   (fun rv own shr => ∃ (w1 : Value), rv = w1 ∧ own = [(rowS RegionS w1 r)] ∧ shr = []) := by
 unfold kit_Regions at h
 refine Ctr.mk (args := [vl1]) Try.func24 rfl rfl (fun R0 w0 B => ?_)
 refine Tk_seq (Tk_region (Tops_step rfl (OpT_assign rfl rfl rfl rfl) ?_))
 refine Tops_nil (Tk_wkS (fr' := [(0, some (vl1))]) (own' := []) (shr' := [Fact.sl RegionS vl1 l]) [0] [] [0] rfl rfl rfl rfl ?_)
 refine Tk_seq (Tk_region (Tops_ex rfl (OpT_buildSlice (S := RegionS) (xs := ([] : List Region)) (css := []) (cs := []) (e := 44) rfl rfl rfl rfl (bldF slF45 (by decide) (by kernel_rfl)) rfl rfl rfl rfl (rel_plainD (S := RegionS) (xs := ([] : List Region)) (css := []) rfl rfl)) fun v1 => ?_))
 refine Tops_step rfl (OpT_move rfl rfl rfl rfl) ?_
 obtain ⟨hc1, h⟩ := chk_e h
 refine Tops_ex rfl (OpT_append rfl rfl rfl rfl rfl slF45 (i := 0) (j := 0) rfl rfl hc1) fun v2 => ?_
 refine Tops_step rfl (OpT_assign rfl rfl rfl rfl) ?_
 refine Tops_nil (Tk_wkS (fr' := [(2, some (v2))]) (own' := [some (rowS RegionS v2 l)]) (shr' := []) [2] [0] [] rfl rfl rfl rfl ?_)
 obtain rfl := Option.some.inj h
 exact Tk_retV rfl rfl (resA (vs := [v2]) rfl ⟨rfl, trivial⟩) [0] [] rfl rfl rfl ⟨v2, rfl, rfl, rfl⟩

set_option maxRecDepth 100000 in
set_option maxHeartbeats 4000000 in
theorem w_ref_Check02 {l : List Region} {vl1 : Value} {r : Int} (h : ref_Check02 l = some r) :
  Ctr Try.prog 40 #[vl1] [] [Fact.sl RegionS vl1 l]
   (fun rv own shr => rv = vI r ∧ own = [] ∧ shr = []) := by
 unfold ref_Check02 at h
 refine Ctr.mk (args := [vl1]) Try.func40 rfl rfl (fun R0 w0 B => ?_)
 refine Tk_seq (Tk_region (Tops_step rfl (OpT_assign rfl rfl rfl rfl) ?_))
 refine Tops_nil (Tk_wkS (fr' := [(0, some (vl1))]) (own' := []) (shr' := [Fact.sl RegionS vl1 l]) [0] [] [0] rfl rfl rfl rfl ?_)
 refine Tk_seq (Tk_seq (Tk_region (Tops_step rfl (OpT_move rfl rfl rfl rfl) ?_)))
 refine Tops_step rfl (OpT_lenS rfl rfl rfl rfl Try.underlying45 (i := 0) rfl) ?_
 refine Tops_step rfl (OpT_bin rfl rfl rfl rfl rfl (bin_gtr_i (a := len l) (b := (16 : Int)))) ?_
 refine Tops_nil (Tk_wkS (fr' := [(0, some (vl1)), (7, some (vB (decide ((len l) > (16 : Int)))))]) (own' := []) (shr' := [Fact.sl RegionS vl1 l]) [0, 7] [] [0] rfl rfl rfl rfl ?_)
 rcases Bool.eq_false_or_eq_true (decide ((len l) > (16 : Int))) with hg1 | hg1
 ·replace h := br_t hg1 h
  refine Tk_condT (congrArg (fun b => some (Value.bool b)) hg1) ?_
  refine Tk_seq (Tk_region (Tops_step rfl (OpT_assign rfl rfl rfl rfl) ?_))
  refine Tops_nil (Tk_wkS (fr' := [(2, some (vI (2 : Int)))]) (own' := []) (shr' := []) [2] [] [] rfl rfl rfl rfl ?_)
  obtain rfl := Option.some.inj h
  exact Tk_retV rfl rfl (resA (vs := [vI (2 : Int)]) rfl ⟨rfl, trivial⟩) [] [] rfl rfl rfl ⟨rfl, rfl, rfl⟩
 ·replace h := br_f hg1 h
  refine Tk_condF (congrArg (fun b => some (Value.bool b)) hg1) ?_
  refine Tk_skip (Tk_seq (Tk_region (Tops_step rfl (OpT_assign rfl rfl rfl rfl) ?_)))
  refine Tops_nil (Tk_wkS (fr' := [(0, some (vl1)), (3, some (vU64 (0 : UInt64)))]) (own' := []) (shr' := [Fact.sl RegionS vl1 l]) [0, 3] [] [0] rfl rfl rfl rfl ?_)
  refine Tk_seq (Tk_seq (Tk_region (Tops_step rfl (OpT_assign rfl rfl rfl rfl) ?_)))
  refine Tops_nil (Tk_block (Tk_loopS (σ := UInt64 × Int) [0, 3, 4] [] [0] (fun s => ⟨[(0, some (vl1)), (3, some (vU64 s.1)), (4, some (vI s.2))], [], [Fact.sl RegionS vl1 l]⟩) (fun nf1 s => ref_Check02L1 l nf1 s.1 s.2 = some r) fuel ((0 : UInt64), (0 : Int)) h rfl rfl rfl rfl rfl (fun s h => by cases h) ?_))
  rintro nf1 ⟨sum1, i1⟩ h
  replace h : ref_Check02L1B l (ref_Check02L1 l nf1) sum1 i1 = some r := h
  unfold ref_Check02L1B at h
  refine Tk_seq (Tk_seq (Tk_region (Tops_step rfl (OpT_move rfl rfl rfl rfl) ?_)))
  refine Tops_step rfl (OpT_move rfl rfl rfl rfl) ?_
  refine Tops_step rfl (OpT_lenS rfl rfl rfl rfl Try.underlying45 (i := 0) rfl) ?_
  refine Tops_step rfl (OpT_bin rfl rfl rfl rfl rfl (bin_lss_i (a := i1) (b := len l))) ?_
  refine Tops_nil (Tk_wkS (fr' := [(0, some (vl1)), (3, some (vU64 sum1)), (4, some (vI i1)), (11, some (vB (decide (i1 < (len l)))))]) (own' := []) (shr' := [Fact.sl RegionS vl1 l]) [0, 3, 4, 11] [] [0] rfl rfl rfl rfl ?_)
  rcases Bool.eq_false_or_eq_true (decide (i1 < (len l))) with hg2 | hg2
  ·replace h := br_t hg2 h
   refine Tk_condT (congrArg (fun b => some (Value.bool b)) hg2) ?_
   refine Tk_skip (Tk_seq (Tk_block (Tk_seq (Tk_seq (Tk_drawT (by kernel_rfl) ?_)))))
   refine TA_tb [0, 0, 3, 7, 15, 31, 63, 127, 127, 511, 1023, 2047, 4095, 8191, 16383, 32767, 32767, 131071, 262143, 524287, 32767, 32767, 3178495, 7372799, 15761407, 32538623, 67108863, 32767, 32767, 402685951, 939556863, 2013298687, 4294967295, 8589934591] (by kernel_rfl) fun htb => ?_
   refine TA_wkS (fr' := [(0, some (vl1)), (3, some (vU64 sum1)), (4, some (vI i1))]) (own' := []) (shr' := [Fact.sl RegionS vl1 l]) [0, 3, 4] [] [0] rfl rfl rfl rfl ?_
   refine TA_seg (lo := 0) (hi := 2) htb rfl rfl (by kernel_rfl) (fun c L a w => Sat c ⟨[(0, some (vl1)), (3, some (vU64 sum1)), (4, some (vI i1)), (14, bif L 0 then some (vl1) else none), (15, bif L 1 then some (vI i1) else none)], [], [Fact.sl RegionS vl1 l]⟩ a w) [([], []), ([], [])] rfl (by kernel_rfl) ?_ (steps_cons ?_ (steps_cons ?_ (steps_nil))) ?_
   ·intro a w hs
    exact hs.startF [14, 15] [] [0] rfl rfl rfl rfl
   ·intro L a w hv K Q hK
    have hs := hv
    refine wpOp_go rfl rfl hs (OpT_move rfl rfl rfl rfl) ?_
    rintro _ rfl a' w' hs'
    exact hK a' w' (hs'.putF (i := 3) rfl [] [0] rfl rfl rfl rfl)
   ·intro L a w hv K Q hK
    have hs := hv
    refine wpOp_go rfl rfl hs (OpT_move rfl rfl rfl rfl) ?_
    rintro _ rfl a' w' hs'
    exact hK a' w' (hs'.putF (i := 4) rfl [] [0] rfl rfl rfl rfl)
   ·intro L a w hL hv
    rw [allTrue hL] at hv
    have hs := hv
    refine (show TA _ _ _ 2 ⟨[(0, some (vl1)), (3, some (vU64 sum1)), (4, some (vI i1)), (14, some (vl1)), (15, some (vI i1))], [], [Fact.sl RegionS vl1 l]⟩ from ?_) a w (hs.wkS [0, 3, 4, 14, 15] [] [0] rfl rfl rfl rfl)
    clear hs hL
    obtain ⟨r1, hx1, h⟩ := ob_e h
    refine TA_ex htb (by kernel_rfl) rfl rfl (OpT_idxS rfl rfl rfl rfl rfl slF45 (i := 0) rfl hx1) fun p1 => ?_
    refine TA_ex htb (by kernel_rfl) rfl rfl (OpT_fieldP (S' := u64S) (y := r1.Len) rfl rfl rfl rfl fldF44x1 (i := 1) rfl (by intro h cs hr; subst hr; rfl)) fun p2 => ?_
    refine TA_step htb (by kernel_rfl) rfl rfl (OpT_loadP rfl rfl rfl rfl tyF22 (i := 2) rfl rfl) ?_
    refine TA_step htb (by kernel_rfl) rfl rfl (OpT_bin rfl rfl rfl rfl rfl (bin_eql_u64 (a := r1.Len) (b := (0 : UInt64)))) ?_
    refine TA_step htb (by kernel_rfl) rfl rfl (OpT_move rfl rfl rfl rfl) ?_
    refine TA_wkS (fr' := [(0, some (vl1)), (3, some (vU64 sum1)), (4, some (vI i1)), (20, some (vB (r1.Len == (0 : UInt64))))]) (own' := []) (shr' := [Fact.sl RegionS vl1 l]) [0, 3, 4, 20] [] [0] rfl rfl rfl rfl ?_
    rcases Bool.eq_false_or_eq_true (r1.Len == (0 : UInt64)) with hg3 | hg3
    ·replace h := br_t hg3 h
     refine TA_seg (lo := 7) (hi := 9) htb rfl rfl (by kernel_rfl) (fun c L a w => Sat c ⟨[(0, some (vl1)), (3, some (vU64 sum1)), (4, some (vI i1)), (20, some (vB (r1.Len == (0 : UInt64)))), (21, bif L 7 then some (undef) else none), (22, bif L 8 then some (undef) else none)], [], [Fact.sl RegionS vl1 l]⟩ a w) [([], []), ([], [])] rfl (by kernel_rfl) ?_ (steps_cons ?_ (steps_cons ?_ (steps_nil))) ?_
     ·intro a w hs
      exact hs.startF [21, 22] [] [0] rfl rfl rfl rfl
     ·intro L a w hv K Q hK
      have hs := hv
      refine wpOp_no rfl rfl rfl hs (congrArg (fun b => some (Value.bool b)) hg3) rfl rfl ?_
      intro a' w' hs'
      exact hK a' w' (hs'.putF (i := 4) rfl [] [0] rfl rfl rfl rfl)
     ·intro L a w hv K Q hK
      have hs := hv
      refine wpOp_no rfl rfl rfl hs (congrArg (fun b => some (Value.bool b)) hg3) rfl rfl ?_
      intro a' w' hs'
      exact hK a' w' (hs'.putF (i := 5) rfl [] [0] rfl rfl rfl rfl)
     ·intro L a w hL hv
      rw [allTrue hL] at hv
      have hs := hv
      refine (show TA _ _ _ 9 ⟨[(0, some (vl1)), (3, some (vU64 sum1)), (4, some (vI i1)), (20, some (vB (r1.Len == (0 : UInt64)))), (21, some (undef)), (22, some (undef))], [], [Fact.sl RegionS vl1 l]⟩ from ?_) a w (hs.wkS [0, 3, 4, 20, 21, 22] [] [0] rfl rfl rfl rfl)
      clear hs hL
      refine TA_no htb (by kernel_rfl) rfl rfl rfl (congrArg (fun b => some (Value.bool b)) hg3) rfl rfl ?_
      refine TA_no htb (by kernel_rfl) rfl rfl rfl (congrArg (fun b => some (Value.bool b)) hg3) rfl rfl ?_
      refine TA_no htb (by kernel_rfl) rfl rfl rfl (congrArg (fun b => some (Value.bool b)) hg3) rfl rfl ?_
      refine TA_no htb (by kernel_rfl) rfl rfl rfl (congrArg (fun b => some (Value.bool b)) hg3) rfl rfl ?_
      refine TA_step htb (by kernel_rfl) rfl rfl (OpT_pickT rfl rfl rfl (congrArg (fun b => some (Value.bool b)) hg3) rfl) ?_
      refine TA_step htb (by kernel_rfl) rfl rfl (OpT_move rfl rfl rfl rfl) ?_
      refine TA_wkS (fr' := [(0, some (vl1)), (3, some (vU64 sum1)), (4, some (vI i1)), (28, some (vB true))]) (own' := []) (shr' := [Fact.sl RegionS vl1 l]) [0, 3, 4, 28] [] [0] rfl rfl rfl rfl ?_
      refine TA_seg (lo := 15) (hi := 32) htb rfl rfl (by kernel_rfl) (fun c L a w => Sat c ⟨[(0, some (vl1)), (3, some (vU64 sum1)), (4, some (vI i1)), (28, some (vB true)), (29, bif L 15 then some (undef) else none), (30, bif L 16 then some (undef) else none), (31, bif L 17 then some (undef) else none), (32, bif L 18 then some (undef) else none), (33, bif L 19 then some (undef) else none), (34, bif L 20 then some (undef) else none), (35, bif L 21 then some (undef) else none), (36, bif L 22 then some (undef) else none), (37, bif L 23 then some (undef) else none), (38, bif L 24 then some (undef) else none), (39, bif L 25 then some (undef) else none), (40, bif L 26 then some (undef) else none), (41, bif L 27 then some (undef) else none), (42, bif L 28 then some (undef) else none), (43, bif L 29 then some (undef) else none), (44, bif L 30 then some (undef) else none), (45, bif L 31 then some (undef) else none)], [], [Fact.sl RegionS vl1 l]⟩ a w) [([], [17, 18, 19, 26]), ([], [17, 18, 19, 26]), ([15, 16], [18, 19, 26]), ([15, 16, 17], [19, 26]), ([15, 16, 17, 18], [26]), ([], [22, 23, 24, 25, 26]), ([], [22, 23, 24, 25, 26]), ([20, 21], [23, 24, 25, 26]), ([20, 21, 22], [24, 25, 26]), ([20, 21, 22, 23], [25, 26]), ([20, 21, 22, 23, 24], [26]), ([15, 16, 17, 18, 19, 20, 21, 22, 23, 24, 25], []), ([], [29, 30, 31]), ([], [29, 30, 31]), ([27, 28], [30, 31]), ([27, 28, 29], [31]), ([27, 28, 29, 30], [])] rfl (by kernel_rfl) ?_ (steps_cons ?_ (steps_cons ?_ (steps_cons ?_ (steps_cons ?_ (steps_cons ?_ (steps_cons ?_ (steps_cons ?_ (steps_cons ?_ (steps_cons ?_ (steps_cons ?_ (steps_cons ?_ (steps_cons ?_ (steps_cons ?_ (steps_cons ?_ (steps_cons ?_ (steps_cons ?_ (steps_cons ?_ (steps_nil)))))))))))))))))) ?_
      ·intro a w hs
       exact hs.startF [29, 30, 31, 32, 33, 34, 35, 36, 37, 38, 39, 40, 41, 42, 43, 44, 45] [] [0] rfl rfl rfl rfl
      ·intro L a w hv K Q hK
       have hs := hv
       refine wpOp_no rfl rfl rfl hs rfl rfl rfl ?_
       intro a' w' hs'
       exact hK a' w' (hs'.putF (i := 4) rfl [] [0] rfl rfl rfl rfl)
      ·intro L a w hv K Q hK
       have hs := hv
       refine wpOp_no rfl rfl rfl hs rfl rfl rfl ?_
       intro a' w' hs'
       exact hK a' w' (hs'.putF (i := 5) rfl [] [0] rfl rfl rfl rfl)
      ·intro L a w hv K Q hK
       have hs := hv
       refine wpOp_no rfl rfl rfl hs rfl rfl rfl ?_
       intro a' w' hs'
       exact hK a' w' (hs'.putF (i := 6) rfl [] [0] rfl rfl rfl rfl)
      ·intro L a w hv K Q hK
       have hs := hv
       refine wpOp_no rfl rfl rfl hs rfl rfl rfl ?_
       intro a' w' hs'
       exact hK a' w' (hs'.putF (i := 7) rfl [] [0] rfl rfl rfl rfl)
      ·intro L a w hv K Q hK
       have hs := hv
       refine wpOp_no rfl rfl rfl hs rfl rfl rfl ?_
       intro a' w' hs'
       exact hK a' w' (hs'.putF (i := 8) rfl [] [0] rfl rfl rfl rfl)
      ·intro L a w hv K Q hK
       have hs := hv
       refine wpOp_no rfl rfl rfl hs rfl rfl rfl ?_
       intro a' w' hs'
       exact hK a' w' (hs'.putF (i := 9) rfl [] [0] rfl rfl rfl rfl)
      ·intro L a w hv K Q hK
       have hs := hv
       refine wpOp_no rfl rfl rfl hs rfl rfl rfl ?_
       intro a' w' hs'
       exact hK a' w' (hs'.putF (i := 10) rfl [] [0] rfl rfl rfl rfl)
      ·intro L a w hv K Q hK
       have hs := hv
       refine wpOp_no rfl rfl rfl hs rfl rfl rfl ?_
       intro a' w' hs'
       exact hK a' w' (hs'.putF (i := 11) rfl [] [0] rfl rfl rfl rfl)
      ·intro L a w hv K Q hK
       have hs := hv
       refine wpOp_no rfl rfl rfl hs rfl rfl rfl ?_
       intro a' w' hs'
       exact hK a' w' (hs'.putF (i := 12) rfl [] [0] rfl rfl rfl rfl)
      ·intro L a w hv K Q hK
       have hs := hv
       refine wpOp_no rfl rfl rfl hs rfl rfl rfl ?_
       intro a' w' hs'
       exact hK a' w' (hs'.putF (i := 13) rfl [] [0] rfl rfl rfl rfl)
      ·intro L a w hv K Q hK
       have hs := hv
       refine wpOp_no rfl rfl rfl hs rfl rfl rfl ?_
       intro a' w' hs'
       exact hK a' w' (hs'.putF (i := 14) rfl [] [0] rfl rfl rfl rfl)
      ·intro L a w hv K Q hK
       have hs := hv
       refine wpOp_no rfl rfl rfl hs rfl rfl rfl ?_
       intro a' w' hs'
       exact hK a' w' (hs'.putF (i := 15) rfl [] [0] rfl rfl rfl rfl)
      ·intro L a w hv K Q hK
       have hs := hv
       refine wpOp_no rfl rfl rfl hs rfl rfl rfl ?_
       intro a' w' hs'
       exact hK a' w' (hs'.putF (i := 16) rfl [] [0] rfl rfl rfl rfl)
      ·intro L a w hv K Q hK
       have hs := hv
       refine wpOp_no rfl rfl rfl hs rfl rfl rfl ?_
       intro a' w' hs'
       exact hK a' w' (hs'.putF (i := 17) rfl [] [0] rfl rfl rfl rfl)
      ·intro L a w hv K Q hK
       have hs := hv
       refine wpOp_no rfl rfl rfl hs rfl rfl rfl ?_
       intro a' w' hs'
       exact hK a' w' (hs'.putF (i := 18) rfl [] [0] rfl rfl rfl rfl)
      ·intro L a w hv K Q hK
       have hs := hv
       refine wpOp_no rfl rfl rfl hs rfl rfl rfl ?_
       intro a' w' hs'
       exact hK a' w' (hs'.putF (i := 19) rfl [] [0] rfl rfl rfl rfl)
      ·intro L a w hv K Q hK
       have hs := hv
       refine wpOp_no rfl rfl rfl hs rfl rfl rfl ?_
       intro a' w' hs'
       exact hK a' w' (hs'.putF (i := 20) rfl [] [0] rfl rfl rfl rfl)
      ·intro L a w hL hv
       rw [allTrue hL] at hv
       have hs := hv
       refine (show TA _ _ _ 32 ⟨[(0, some (vl1)), (3, some (vU64 sum1)), (4, some (vI i1)), (28, some (vB true)), (40, some (undef)), (45, some (undef))], [], [Fact.sl RegionS vl1 l]⟩ from ?_) a w (hs.wkS [0, 3, 4, 28, 40, 45] [] [0] rfl rfl rfl rfl)
       clear hs hL
       refine TA_no htb (by kernel_rfl) rfl rfl rfl rfl rfl rfl ?_
       refine TA_step htb (by kernel_rfl) rfl rfl (OpT_pickT rfl rfl rfl rfl rfl) ?_
       refine TA_end rfl ?_
       refine Tk_wkS (fr' := [(0, some (vl1)), (3, some (vU64 sum1)), (4, some (vI i1)), (47, some (vB true))]) (own' := []) (shr' := [Fact.sl RegionS vl1 l]) [0, 3, 4, 47] [] [0] rfl rfl rfl rfl ?_
       refine Tk_condT rfl ?_
       refine Tk_seq (Tk_region (Tops_step rfl (OpT_assign rfl rfl rfl rfl) ?_))
       refine Tops_nil (Tk_wkS (fr' := [(2, some (vI (2 : Int)))]) (own' := []) (shr' := []) [2] [] [] rfl rfl rfl rfl ?_)
       obtain rfl := Option.some.inj h
       exact Tk_retV rfl rfl (resA (vs := [vI (2 : Int)]) rfl ⟨rfl, trivial⟩) [] [] rfl rfl rfl ⟨rfl, rfl, rfl⟩
    ·replace h := br_f hg3 h
     refine TA_seg (lo := 7) (hi := 9) htb rfl rfl (by kernel_rfl) (fun c L a w => Sat c ⟨[(0, some (vl1)), (3, some (vU64 sum1)), (4, some (vI i1)), (20, some (vB (r1.Len == (0 : UInt64)))), (21, bif L 7 then some (vl1) else none), (22, bif L 8 then some (vI i1) else none)], [], [Fact.sl RegionS vl1 l]⟩ a w) [([], []), ([], [])] rfl (by kernel_rfl) ?_ (steps_cons ?_ (steps_cons ?_ (steps_nil))) ?_
     ·intro a w hs
      exact hs.startF [21, 22] [] [0] rfl rfl rfl rfl
     ·intro L a w hv K Q hK
      have hs := hv
      refine wpOp_yes rfl rfl rfl hs (congrArg (fun b => some (Value.bool b)) hg3) (OpT_move rfl rfl rfl rfl) ?_
      rintro _ rfl a' w' hs'
      exact hK a' w' (hs'.putF (i := 4) rfl [] [0] rfl rfl rfl rfl)
     ·intro L a w hv K Q hK
      have hs := hv
      refine wpOp_yes rfl rfl rfl hs (congrArg (fun b => some (Value.bool b)) hg3) (OpT_move rfl rfl rfl rfl) ?_
      rintro _ rfl a' w' hs'
      exact hK a' w' (hs'.putF (i := 5) rfl [] [0] rfl rfl rfl rfl)
     ·intro L a w hL hv
      rw [allTrue hL] at hv
      have hs := hv
      refine (show TA _ _ _ 9 ⟨[(0, some (vl1)), (3, some (vU64 sum1)), (4, some (vI i1)), (20, some (vB (r1.Len == (0 : UInt64)))), (21, some (vl1)), (22, some (vI i1))], [], [Fact.sl RegionS vl1 l]⟩ from ?_) a w (hs.wkS [0, 3, 4, 20, 21, 22] [] [0] rfl rfl rfl rfl)
      clear hs hL
      obtain ⟨r2, hx2, h⟩ := ob_e h
      refine TA_yes htb (by kernel_rfl) rfl rfl rfl (congrArg (fun b => some (Value.bool b)) hg3) (OpT_idxS rfl rfl rfl rfl rfl slF45 (i := 0) rfl hx2) ?_
      rintro _ ⟨p3, rfl⟩
      refine TA_yes htb (by kernel_rfl) rfl rfl rfl (congrArg (fun b => some (Value.bool b)) hg3) (OpT_fieldP (S' := u64S) (y := r2.Len) rfl rfl rfl rfl fldF44x1 (i := 1) rfl (by intro h cs hr; subst hr; rfl)) ?_
      rintro _ ⟨p4, rfl⟩
      refine TA_yes htb (by kernel_rfl) rfl rfl rfl (congrArg (fun b => some (Value.bool b)) hg3) (OpT_loadP rfl rfl rfl rfl tyF22 (i := 2) rfl rfl) ?_
      rintro _ rfl
      refine TA_yes htb (by kernel_rfl) rfl rfl rfl (congrArg (fun b => some (Value.bool b)) hg3) (OpT_bin rfl rfl rfl rfl rfl (bin_gtr_u64 (a := r2.Len) (b := (1048576 : UInt64)))) ?_
      rintro _ rfl
      refine TA_step htb (by kernel_rfl) rfl rfl (OpT_pickF rfl rfl rfl (congrArg (fun b => some (Value.bool b)) hg3) rfl) ?_
      refine TA_step htb (by kernel_rfl) rfl rfl (OpT_move rfl rfl rfl rfl) ?_
      refine TA_wkS (fr' := [(0, some (vl1)), (3, some (vU64 sum1)), (4, some (vI i1)), (28, some (vB (decide (r2.Len > (1048576 : UInt64)))))]) (own' := []) (shr' := [Fact.sl RegionS vl1 l]) [0, 3, 4, 28] [] [0] rfl rfl rfl rfl ?_
      rcases Bool.eq_false_or_eq_true (decide (r2.Len > (1048576 : UInt64))) with hg4 | hg4
      ·replace h := br_t hg4 h
       refine TA_seg (lo := 15) (hi := 32) htb rfl rfl (by kernel_rfl) (fun c L a w => Sat c ⟨[(0, some (vl1)), (3, some (vU64 sum1)), (4, some (vI i1)), (28, some (vB (decide (r2.Len > (1048576 : UInt64))))), (29, bif L 15 then some (undef) else none), (30, bif L 16 then some (undef) else none), (31, bif L 17 then some (undef) else none), (32, bif L 18 then some (undef) else none), (33, bif L 19 then some (undef) else none), (34, bif L 20 then some (undef) else none), (35, bif L 21 then some (undef) else none), (36, bif L 22 then some (undef) else none), (37, bif L 23 then some (undef) else none), (38, bif L 24 then some (undef) else none), (39, bif L 25 then some (undef) else none), (40, bif L 26 then some (undef) else none), (41, bif L 27 then some (undef) else none), (42, bif L 28 then some (undef) else none), (43, bif L 29 then some (undef) else none), (44, bif L 30 then some (undef) else none), (45, bif L 31 then some (undef) else none)], [], [Fact.sl RegionS vl1 l]⟩ a w) [([], [17, 18, 19, 26]), ([], [17, 18, 19, 26]), ([15, 16], [18, 19, 26]), ([15, 16, 17], [19, 26]), ([15, 16, 17, 18], [26]), ([], [22, 23, 24, 25, 26]), ([], [22, 23, 24, 25, 26]), ([20, 21], [23, 24, 25, 26]), ([20, 21, 22], [24, 25, 26]), ([20, 21, 22, 23], [25, 26]), ([20, 21, 22, 23, 24], [26]), ([15, 16, 17, 18, 19, 20, 21, 22, 23, 24, 25], []), ([], [29, 30, 31]), ([], [29, 30, 31]), ([27, 28], [30, 31]), ([27, 28, 29], [31]), ([27, 28, 29, 30], [])] rfl (by kernel_rfl) ?_ (steps_cons ?_ (steps_cons ?_ (steps_cons ?_ (steps_cons ?_ (steps_cons ?_ (steps_cons ?_ (steps_cons ?_ (steps_cons ?_ (steps_cons ?_ (steps_cons ?_ (steps_cons ?_ (steps_cons ?_ (steps_cons ?_ (steps_cons ?_ (steps_cons ?_ (steps_cons ?_ (steps_cons ?_ (steps_nil)))))))))))))))))) ?_
       ·intro a w hs
        exact hs.startF [29, 30, 31, 32, 33, 34, 35, 36, 37, 38, 39, 40, 41, 42, 43, 44, 45] [] [0] rfl rfl rfl rfl
       ·intro L a w hv K Q hK
        have hs := hv
        refine wpOp_no rfl rfl rfl hs (congrArg (fun b => some (Value.bool b)) hg4) rfl rfl ?_
        intro a' w' hs'
        exact hK a' w' (hs'.putF (i := 4) rfl [] [0] rfl rfl rfl rfl)
       ·intro L a w hv K Q hK
        have hs := hv
        refine wpOp_no rfl rfl rfl hs (congrArg (fun b => some (Value.bool b)) hg4) rfl rfl ?_
        intro a' w' hs'
        exact hK a' w' (hs'.putF (i := 5) rfl [] [0] rfl rfl rfl rfl)
       ·intro L a w hv K Q hK
        have hs := hv
        refine wpOp_no rfl rfl rfl hs (congrArg (fun b => some (Value.bool b)) hg4) rfl rfl ?_
        intro a' w' hs'
        exact hK a' w' (hs'.putF (i := 6) rfl [] [0] rfl rfl rfl rfl)
       ·intro L a w hv K Q hK
        have hs := hv
        refine wpOp_no rfl rfl rfl hs (congrArg (fun b => some (Value.bool b)) hg4) rfl rfl ?_
        intro a' w' hs'
        exact hK a' w' (hs'.putF (i := 7) rfl [] [0] rfl rfl rfl rfl)
       ·intro L a w hv K Q hK
        have hs := hv
        refine wpOp_no rfl rfl rfl hs (congrArg (fun b => some (Value.bool b)) hg4) rfl rfl ?_
        intro a' w' hs'
        exact hK a' w' (hs'.putF (i := 8) rfl [] [0] rfl rfl rfl rfl)
       ·intro L a w hv K Q hK
        have hs := hv
        refine wpOp_no rfl rfl rfl hs (congrArg (fun b => some (Value.bool b)) hg4) rfl rfl ?_
        intro a' w' hs'
        exact hK a' w' (hs'.putF (i := 9) rfl [] [0] rfl rfl rfl rfl)
       ·intro L a w hv K Q hK
        have hs := hv
        refine wpOp_no rfl rfl rfl hs (congrArg (fun b => some (Value.bool b)) hg4) rfl rfl ?_
        intro a' w' hs'
        exact hK a' w' (hs'.putF (i := 10) rfl [] [0] rfl rfl rfl rfl)
       ·intro L a w hv K Q hK
        have hs := hv
        refine wpOp_no rfl rfl rfl hs (congrArg (fun b => some (Value.bool b)) hg4) rfl rfl ?_
        intro a' w' hs'
        exact hK a' w' (hs'.putF (i := 11) rfl [] [0] rfl rfl rfl rfl)
       ·intro L a w hv K Q hK
        have hs := hv
        refine wpOp_no rfl rfl rfl hs (congrArg (fun b => some (Value.bool b)) hg4) rfl rfl ?_
        intro a' w' hs'
        exact hK a' w' (hs'.putF (i := 12) rfl [] [0] rfl rfl rfl rfl)
       ·intro L a w hv K Q hK
        have hs := hv
        refine wpOp_no rfl rfl rfl hs (congrArg (fun b => some (Value.bool b)) hg4) rfl rfl ?_
        intro a' w' hs'
        exact hK a' w' (hs'.putF (i := 13) rfl [] [0] rfl rfl rfl rfl)
       ·intro L a w hv K Q hK
        have hs := hv
        refine wpOp_no rfl rfl rfl hs (congrArg (fun b => some (Value.bool b)) hg4) rfl rfl ?_
        intro a' w' hs'
        exact hK a' w' (hs'.putF (i := 14) rfl [] [0] rfl rfl rfl rfl)
       ·intro L a w hv K Q hK
        have hs := hv
        refine wpOp_no rfl rfl rfl hs (congrArg (fun b => some (Value.bool b)) hg4) rfl rfl ?_
        intro a' w' hs'
        exact hK a' w' (hs'.putF (i := 15) rfl [] [0] rfl rfl rfl rfl)
       ·intro L a w hv K Q hK
        have hs := hv
        refine wpOp_no rfl rfl rfl hs (congrArg (fun b => some (Value.bool b)) hg4) rfl rfl ?_
        intro a' w' hs'
        exact hK a' w' (hs'.putF (i := 16) rfl [] [0] rfl rfl rfl rfl)
       ·intro L a w hv K Q hK
        have hs := hv
        refine wpOp_no rfl rfl rfl hs (congrArg (fun b => some (Value.bool b)) hg4) rfl rfl ?_
        intro a' w' hs'
        exact hK a' w' (hs'.putF (i := 17) rfl [] [0] rfl rfl rfl rfl)
       ·intro L a w hv K Q hK
        have hs := hv
        refine wpOp_no rfl rfl rfl hs (congrArg (fun b => some (Value.bool b)) hg4) rfl rfl ?_
        intro a' w' hs'
        exact hK a' w' (hs'.putF (i := 18) rfl [] [0] rfl rfl rfl rfl)
       ·intro L a w hv K Q hK
        have hs := hv
        refine wpOp_no rfl rfl rfl hs (congrArg (fun b => some (Value.bool b)) hg4) rfl rfl ?_
        intro a' w' hs'
        exact hK a' w' (hs'.putF (i := 19) rfl [] [0] rfl rfl rfl rfl)
       ·intro L a w hv K Q hK
        have hs := hv
        refine wpOp_no rfl rfl rfl hs (congrArg (fun b => some (Value.bool b)) hg4) rfl rfl ?_
        intro a' w' hs'
        exact hK a' w' (hs'.putF (i := 20) rfl [] [0] rfl rfl rfl rfl)
       ·intro L a w hL hv
        rw [allTrue hL] at hv
        have hs := hv
        refine (show TA _ _ _ 32 ⟨[(0, some (vl1)), (3, some (vU64 sum1)), (4, some (vI i1)), (28, some (vB (decide (r2.Len > (1048576 : UInt64))))), (40, some (undef)), (45, some (undef))], [], [Fact.sl RegionS vl1 l]⟩ from ?_) a w (hs.wkS [0, 3, 4, 28, 40, 45] [] [0] rfl rfl rfl rfl)
        clear hs hL
        refine TA_no htb (by kernel_rfl) rfl rfl rfl (congrArg (fun b => some (Value.bool b)) hg4) rfl rfl ?_
        refine TA_step htb (by kernel_rfl) rfl rfl (OpT_pickT rfl rfl rfl (congrArg (fun b => some (Value.bool b)) hg4) rfl) ?_
        refine TA_end rfl ?_
        refine Tk_wkS (fr' := [(0, some (vl1)), (3, some (vU64 sum1)), (4, some (vI i1)), (47, some (vB true))]) (own' := []) (shr' := [Fact.sl RegionS vl1 l]) [0, 3, 4, 47] [] [0] rfl rfl rfl rfl ?_
        refine Tk_condT rfl ?_
        refine Tk_seq (Tk_region (Tops_step rfl (OpT_assign rfl rfl rfl rfl) ?_))
        refine Tops_nil (Tk_wkS (fr' := [(2, some (vI (2 : Int)))]) (own' := []) (shr' := []) [2] [] [] rfl rfl rfl rfl ?_)
        obtain rfl := Option.some.inj h
        exact Tk_retV rfl rfl (resA (vs := [vI (2 : Int)]) rfl ⟨rfl, trivial⟩) [] [] rfl rfl rfl ⟨rfl, rfl, rfl⟩
      ·replace h := br_f hg4 h
       obtain ⟨r3, hx3, h⟩ := ob_e h
       obtain ⟨r4, hx4, h⟩ := ob_e h
       obtain ⟨r5, hx5, h⟩ := ob_e h
       refine TA_seg (lo := 15) (hi := 32) htb rfl rfl (by kernel_rfl) (fun c L a w => ∃ (p5 : Value), ∃ (p6 : Value), ∃ (p7 : Value), ∃ (p8 : Value), ∃ (p9 : Value), ∃ (p10 : Value), Sat c ⟨[(0, some (vl1)), (3, some (vU64 sum1)), (4, some (vI i1)), (28, some (vB (decide (r2.Len > (1048576 : UInt64))))), (29, bif L 15 then some (vl1) else none), (30, bif L 16 then some (vI i1) else none), (31, bif L 17 then some (p5) else none), (32, bif L 18 then some (p6) else none), (33, bif L 19 then some (vU64 r3.At) else none), (34, bif L 20 then some (vl1) else none), (35, bif L 21 then some (vI i1) else none), (36, bif L 22 then some (p7) else none), (37, bif L 23 then some (p8) else none), (38, bif L 24 then some (vU64 r4.Len) else none), (39, bif L 25 then some (vU64 (r4.Len - (1 : UInt64))) else none), (40, bif L 26 then some (vU64 (r3.At + (r4.Len - (1 : UInt64)))) else none), (41, bif L 27 then some (vl1) else none), (42, bif L 28 then some (vI i1) else none), (43, bif L 29 then some (p9) else none), (44, bif L 30 then some (p10) else none), (45, bif L 31 then some (vU64 r5.At) else none)], [], [Fact.sl RegionS vl1 l, (bif L 17 then Fact.pt RegionS p5 r3 else Fact.tt), (bif L 18 then Fact.pt u64S p6 r3.At else Fact.tt), (bif L 22 then Fact.pt RegionS p7 r4 else Fact.tt), (bif L 23 then Fact.pt u64S p8 r4.Len else Fact.tt), (bif L 29 then Fact.pt RegionS p9 r5 else Fact.tt), (bif L 30 then Fact.pt u64S p10 r5.At else Fact.tt)]⟩ a w) [([], [17, 18, 19, 26]), ([], [17, 18, 19, 26]), ([15, 16], [18, 19, 26]), ([15, 16, 17], [19, 26]), ([15, 16, 17, 18], [26]), ([], [22, 23, 24, 25, 26]), ([], [22, 23, 24, 25, 26]), ([20, 21], [23, 24, 25, 26]), ([20, 21, 22], [24, 25, 26]), ([20, 21, 22, 23], [25, 26]), ([20, 21, 22, 23, 24], [26]), ([15, 16, 17, 18, 19, 20, 21, 22, 23, 24, 25], []), ([], [29, 30, 31]), ([], [29, 30, 31]), ([27, 28], [30, 31]), ([27, 28, 29], [31]), ([27, 28, 29, 30], [])] rfl (by kernel_rfl) ?_ (steps_cons ?_ (steps_cons ?_ (steps_cons ?_ (steps_cons ?_ (steps_cons ?_ (steps_cons ?_ (steps_cons ?_ (steps_cons ?_ (steps_cons ?_ (steps_cons ?_ (steps_cons ?_ (steps_cons ?_ (steps_cons ?_ (steps_cons ?_ (steps_cons ?_ (steps_cons ?_ (steps_cons ?_ (steps_nil)))))))))))))))))) ?_
       ·intro a w hs
        exact ⟨undef, undef, undef, undef, undef, undef, hs.startF [29, 30, 31, 32, 33, 34, 35, 36, 37, 38, 39, 40, 41, 42, 43, 44, 45] [] [0, 1, 2, 3, 4, 5, 6] rfl rfl rfl rfl⟩
       ·intro L a w hv K Q hK
        obtain ⟨p5, p6, p7, p8, p9, p10, hs⟩ := hv
        refine wpOp_yes rfl rfl rfl hs (congrArg (fun b => some (Value.bool b)) hg4) (OpT_move rfl rfl rfl rfl) ?_
        rintro _ rfl a' w' hs'
        exact hK a' w' ⟨p5, p6, p7, p8, p9, p10, hs'.putF (i := 4) rfl [] [0, 1, 2, 3, 4, 5, 6] rfl rfl rfl rfl⟩
       ·intro L a w hv K Q hK
        obtain ⟨p5, p6, p7, p8, p9, p10, hs⟩ := hv
        refine wpOp_yes rfl rfl rfl hs (congrArg (fun b => some (Value.bool b)) hg4) (OpT_move rfl rfl rfl rfl) ?_
        rintro _ rfl a' w' hs'
        exact hK a' w' ⟨p5, p6, p7, p8, p9, p10, hs'.putF (i := 5) rfl [] [0, 1, 2, 3, 4, 5, 6] rfl rfl rfl rfl⟩
       ·intro L a w hv K Q hK
        obtain ⟨p5, p6, p7, p8, p9, p10, hs⟩ := hv
        refine wpOp_yes rfl rfl rfl hs (congrArg (fun b => some (Value.bool b)) hg4) (OpT_idxS rfl rfl rfl rfl rfl slF45 (i := 0) rfl hx3) ?_
        rintro _ ⟨p5', rfl⟩ a' w' hs'
        exact hK a' w' ⟨p5', p6, p7, p8, p9, p10, hs'.putF (i := 6) rfl [] [0, 7, 2, 3, 4, 5, 6] rfl rfl rfl rfl⟩
       ·intro L a w hv K Q hK
        obtain ⟨p5, p6, p7, p8, p9, p10, hs⟩ := hv
        refine wpOp_yes rfl rfl rfl hs (congrArg (fun b => some (Value.bool b)) hg4) (OpT_fieldP (S' := u64S) (y := r3.At) rfl rfl rfl rfl fldF44x0 (i := 1) rfl (by intro h cs hr; subst hr; rfl)) ?_
        rintro _ ⟨p6', rfl⟩ a' w' hs'
        exact hK a' w' ⟨p5, p6', p7, p8, p9, p10, hs'.putF (i := 7) rfl [] [0, 1, 7, 3, 4, 5, 6] rfl rfl rfl rfl⟩
       ·intro L a w hv K Q hK
        obtain ⟨p5, p6, p7, p8, p9, p10, hs⟩ := hv
        refine wpOp_yes rfl rfl rfl hs (congrArg (fun b => some (Value.bool b)) hg4) (OpT_loadP rfl rfl rfl rfl tyF22 (i := 2) rfl rfl) ?_
        rintro _ rfl a' w' hs'
        exact hK a' w' ⟨p5, p6, p7, p8, p9, p10, hs'.putF (i := 8) rfl [] [0, 1, 2, 3, 4, 5, 6] rfl rfl rfl rfl⟩
       ·intro L a w hv K Q hK
        obtain ⟨p5, p6, p7, p8, p9, p10, hs⟩ := hv
        refine wpOp_yes rfl rfl rfl hs (congrArg (fun b => some (Value.bool b)) hg4) (OpT_move rfl rfl rfl rfl) ?_
        rintro _ rfl a' w' hs'
        exact hK a' w' ⟨p5, p6, p7, p8, p9, p10, hs'.putF (i := 9) rfl [] [0, 1, 2, 3, 4, 5, 6] rfl rfl rfl rfl⟩
       ·intro L a w hv K Q hK
        obtain ⟨p5, p6, p7, p8, p9, p10, hs⟩ := hv
        refine wpOp_yes rfl rfl rfl hs (congrArg (fun b => some (Value.bool b)) hg4) (OpT_move rfl rfl rfl rfl) ?_
        rintro _ rfl a' w' hs'
        exact hK a' w' ⟨p5, p6, p7, p8, p9, p10, hs'.putF (i := 10) rfl [] [0, 1, 2, 3, 4, 5, 6] rfl rfl rfl rfl⟩
       ·intro L a w hv K Q hK
        obtain ⟨p5, p6, p7, p8, p9, p10, hs⟩ := hv
        refine wpOp_yes rfl rfl rfl hs (congrArg (fun b => some (Value.bool b)) hg4) (OpT_idxS rfl rfl rfl rfl rfl slF45 (i := 0) rfl hx4) ?_
        rintro _ ⟨p7', rfl⟩ a' w' hs'
        exact hK a' w' ⟨p5, p6, p7', p8, p9, p10, hs'.putF (i := 11) rfl [] [0, 1, 2, 7, 4, 5, 6] rfl rfl rfl rfl⟩
       ·intro L a w hv K Q hK
        obtain ⟨p5, p6, p7, p8, p9, p10, hs⟩ := hv
        refine wpOp_yes rfl rfl rfl hs (congrArg (fun b => some (Value.bool b)) hg4) (OpT_fieldP (S' := u64S) (y := r4.Len) rfl rfl rfl rfl fldF44x1 (i := 3) rfl (by intro h cs hr; subst hr; rfl)) ?_
        rintro _ ⟨p8', rfl⟩ a' w' hs'
        exact hK a' w' ⟨p5, p6, p7, p8', p9, p10, hs'.putF (i := 12) rfl [] [0, 1, 2, 3, 7, 5, 6] rfl rfl rfl rfl⟩
       ·intro L a w hv K Q hK
        obtain ⟨p5, p6, p7, p8, p9, p10, hs⟩ := hv
        refine wpOp_yes rfl rfl rfl hs (congrArg (fun b => some (Value.bool b)) hg4) (OpT_loadP rfl rfl rfl rfl tyF22 (i := 4) rfl rfl) ?_
        rintro _ rfl a' w' hs'
        exact hK a' w' ⟨p5, p6, p7, p8, p9, p10, hs'.putF (i := 13) rfl [] [0, 1, 2, 3, 4, 5, 6] rfl rfl rfl rfl⟩
       ·intro L a w hv K Q hK
        obtain ⟨p5, p6, p7, p8, p9, p10, hs⟩ := hv
        refine wpOp_yes rfl rfl rfl hs (congrArg (fun b => some (Value.bool b)) hg4) (OpT_bin rfl rfl rfl rfl rfl (bin_sub_u64 (a := r4.Len) (b := (1 : UInt64)))) ?_
        rintro _ rfl a' w' hs'
        exact hK a' w' ⟨p5, p6, p7, p8, p9, p10, hs'.putF (i := 14) rfl [] [0, 1, 2, 3, 4, 5, 6] rfl rfl rfl rfl⟩
       ·intro L a w hv K Q hK
        obtain ⟨p5, p6, p7, p8, p9, p10, hs⟩ := hv
        refine wpOp_yes rfl rfl rfl hs (congrArg (fun b => some (Value.bool b)) hg4) (OpT_bin rfl rfl rfl rfl rfl (bin_add_u64 (a := r3.At) (b := r4.Len - (1 : UInt64)))) ?_
        rintro _ rfl a' w' hs'
        exact hK a' w' ⟨p5, p6, p7, p8, p9, p10, hs'.putF (i := 15) rfl [] [0, 1, 2, 3, 4, 5, 6] rfl rfl rfl rfl⟩
       ·intro L a w hv K Q hK
        obtain ⟨p5, p6, p7, p8, p9, p10, hs⟩ := hv
        refine wpOp_yes rfl rfl rfl hs (congrArg (fun b => some (Value.bool b)) hg4) (OpT_move rfl rfl rfl rfl) ?_
        rintro _ rfl a' w' hs'
        exact hK a' w' ⟨p5, p6, p7, p8, p9, p10, hs'.putF (i := 16) rfl [] [0, 1, 2, 3, 4, 5, 6] rfl rfl rfl rfl⟩
       ·intro L a w hv K Q hK
        obtain ⟨p5, p6, p7, p8, p9, p10, hs⟩ := hv
        refine wpOp_yes rfl rfl rfl hs (congrArg (fun b => some (Value.bool b)) hg4) (OpT_move rfl rfl rfl rfl) ?_
        rintro _ rfl a' w' hs'
        exact hK a' w' ⟨p5, p6, p7, p8, p9, p10, hs'.putF (i := 17) rfl [] [0, 1, 2, 3, 4, 5, 6] rfl rfl rfl rfl⟩
       ·intro L a w hv K Q hK
        obtain ⟨p5, p6, p7, p8, p9, p10, hs⟩ := hv
        refine wpOp_yes rfl rfl rfl hs (congrArg (fun b => some (Value.bool b)) hg4) (OpT_idxS rfl rfl rfl rfl rfl slF45 (i := 0) rfl hx5) ?_
        rintro _ ⟨p9', rfl⟩ a' w' hs'
        exact hK a' w' ⟨p5, p6, p7, p8, p9', p10, hs'.putF (i := 18) rfl [] [0, 1, 2, 3, 4, 7, 6] rfl rfl rfl rfl⟩
       ·intro L a w hv K Q hK
        obtain ⟨p5, p6, p7, p8, p9, p10, hs⟩ := hv
        refine wpOp_yes rfl rfl rfl hs (congrArg (fun b => some (Value.bool b)) hg4) (OpT_fieldP (S' := u64S) (y := r5.At) rfl rfl rfl rfl fldF44x0 (i := 5) rfl (by intro h cs hr; subst hr; rfl)) ?_
        rintro _ ⟨p10', rfl⟩ a' w' hs'
        exact hK a' w' ⟨p5, p6, p7, p8, p9, p10', hs'.putF (i := 19) rfl [] [0, 1, 2, 3, 4, 5, 7] rfl rfl rfl rfl⟩
       ·intro L a w hv K Q hK
        obtain ⟨p5, p6, p7, p8, p9, p10, hs⟩ := hv
        refine wpOp_yes rfl rfl rfl hs (congrArg (fun b => some (Value.bool b)) hg4) (OpT_loadP rfl rfl rfl rfl tyF22 (i := 6) rfl rfl) ?_
        rintro _ rfl a' w' hs'
        exact hK a' w' ⟨p5, p6, p7, p8, p9, p10, hs'.putF (i := 20) rfl [] [0, 1, 2, 3, 4, 5, 6] rfl rfl rfl rfl⟩
       ·intro L a w hL hv
        rw [allTrue hL] at hv
        obtain ⟨p5, p6, p7, p8, p9, p10, hs⟩ := hv
        refine (show TA _ _ _ 32 ⟨[(0, some (vl1)), (3, some (vU64 sum1)), (4, some (vI i1)), (28, some (vB (decide (r2.Len > (1048576 : UInt64))))), (40, some (vU64 (r3.At + (r4.Len - (1 : UInt64))))), (45, some (vU64 r5.At))], [], [Fact.sl RegionS vl1 l]⟩ from ?_) a w (hs.wkS [0, 3, 4, 28, 40, 45] [] [0] rfl rfl rfl rfl)
        clear hs hL
        refine TA_yes htb (by kernel_rfl) rfl rfl rfl (congrArg (fun b => some (Value.bool b)) hg4) (OpT_bin rfl rfl rfl rfl rfl (bin_lss_u64 (a := r3.At + (r4.Len - (1 : UInt64))) (b := r5.At))) ?_
        rintro _ rfl
        refine TA_step htb (by kernel_rfl) rfl rfl (OpT_pickF rfl rfl rfl (congrArg (fun b => some (Value.bool b)) hg4) rfl) ?_
        refine TA_end rfl ?_
        refine Tk_wkS (fr' := [(0, some (vl1)), (3, some (vU64 sum1)), (4, some (vI i1)), (47, some (vB (decide ((r3.At + (r4.Len - (1 : UInt64))) < r5.At))))]) (own' := []) (shr' := [Fact.sl RegionS vl1 l]) [0, 3, 4, 47] [] [0] rfl rfl rfl rfl ?_
        rcases Bool.eq_false_or_eq_true (decide ((r3.At + (r4.Len - (1 : UInt64))) < r5.At)) with hg5 | hg5
        ·replace h := br_t hg5 h
         refine Tk_condT (congrArg (fun b => some (Value.bool b)) hg5) ?_
         refine Tk_seq (Tk_region (Tops_step rfl (OpT_assign rfl rfl rfl rfl) ?_))
         refine Tops_nil (Tk_wkS (fr' := [(2, some (vI (2 : Int)))]) (own' := []) (shr' := []) [2] [] [] rfl rfl rfl rfl ?_)
         obtain rfl := Option.some.inj h
         exact Tk_retV rfl rfl (resA (vs := [vI (2 : Int)]) rfl ⟨rfl, trivial⟩) [] [] rfl rfl rfl ⟨rfl, rfl, rfl⟩
        ·replace h := br_f hg5 h
         refine Tk_condF (congrArg (fun b => some (Value.bool b)) hg5) ?_
         refine Tk_skip (Tk_seq (Tk_region (Tops_step rfl (OpT_move rfl rfl rfl rfl) ?_)))
         refine Tops_step rfl (OpT_move rfl rfl rfl rfl) ?_
         refine Tops_step rfl (OpT_move rfl rfl rfl rfl) ?_
         obtain ⟨r6, hx6, h⟩ := ob_e h
         refine Tops_ex rfl (OpT_idxS rfl rfl rfl rfl rfl slF45 (i := 0) rfl hx6) fun p11 => ?_
         refine Tops_ex rfl (OpT_fieldP (S' := u64S) (y := r6.Len) rfl rfl rfl rfl fldF44x1 (i := 1) rfl (by intro h cs hr; subst hr; rfl)) fun p12 => ?_
         refine Tops_step rfl (OpT_loadP rfl rfl rfl rfl tyF22 (i := 2) rfl rfl) ?_
         refine Tops_step rfl (OpT_bin rfl rfl rfl rfl rfl (bin_add_u64 (a := sum1) (b := r6.Len))) ?_
         refine Tops_step rfl (OpT_assign rfl rfl rfl rfl) ?_
         refine Tops_nil (Tk_wkS (fr' := [(0, some (vl1)), (3, some (vU64 (sum1 + r6.Len))), (4, some (vI i1))]) (own' := []) (shr' := [Fact.sl RegionS vl1 l]) [0, 3, 4] [] [0] rfl rfl rfl rfl ?_)
         refine Tk_seq (Tk_drawT (by kernel_rfl) ?_)
         refine TA_tb [0, 1, 3, 7, 7, 31, 63, 127, 7, 7, 519, 1799, 3847, 7943, 7, 7, 32775, 114695, 245767, 507911, 1032199, 2096903, 4194303, 8388607] (by kernel_rfl) fun htb => ?_
         refine TA_step htb (by kernel_rfl) rfl rfl (OpT_move rfl rfl rfl rfl) ?_
         refine TA_step htb (by kernel_rfl) rfl rfl (OpT_bin rfl rfl rfl rfl rfl (bin_gtr_i (a := i1) (b := (0 : Int)))) ?_
         refine TA_step htb (by kernel_rfl) rfl rfl (OpT_move rfl rfl rfl rfl) ?_
         refine TA_wkS (fr' := [(0, some (vl1)), (3, some (vU64 (sum1 + r6.Len))), (4, some (vI i1)), (57, some (vB (decide (i1 > (0 : Int)))))]) (own' := []) (shr' := [Fact.sl RegionS vl1 l]) [0, 3, 4, 57] [] [0] rfl rfl rfl rfl ?_
         rcases Bool.eq_false_or_eq_true (decide (i1 > (0 : Int))) with hg6 | hg6
         ·replace h := br_t hg6 h
          obtain ⟨r7, hx7, h⟩ := ob_e h
          obtain ⟨r8, hx8, h⟩ := ob_e h
          obtain ⟨r9, hx9, h⟩ := ob_e h
          refine TA_seg (lo := 3) (hi := 22) htb rfl rfl (by kernel_rfl) (fun c L a w => ∃ (p13 : Value), ∃ (p14 : Value), ∃ (p15 : Value), ∃ (p16 : Value), ∃ (p17 : Value), ∃ (p18 : Value), Sat c ⟨[(0, some (vl1)), (3, some (vU64 (sum1 + r6.Len))), (4, some (vI i1)), (57, some (vB (decide (i1 > (0 : Int))))), (58, bif L 3 then some (vl1) else none), (59, bif L 4 then some (vI i1) else none), (60, bif L 5 then some (p13) else none), (61, bif L 6 then some (p14) else none), (62, bif L 7 then some (vU64 r7.At) else none), (63, bif L 8 then some (vl1) else none), (64, bif L 9 then some (vI i1) else none), (65, bif L 10 then some (vI (wi (i1 - (1 : Int)))) else none), (66, bif L 11 then some (p15) else none), (67, bif L 12 then some (p16) else none), (68, bif L 13 then some (vU64 r8.At) else none), (69, bif L 14 then some (vl1) else none), (70, bif L 15 then some (vI i1) else none), (71, bif L 16 then some (vI (wi (i1 - (1 : Int)))) else none), (72, bif L 17 then some (p17) else none), (73, bif L 18 then some (p18) else none), (74, bif L 19 then some (vU64 r9.Len) else none), (75, bif L 20 then some (vU64 (r9.Len - (1 : UInt64))) else none), (76, bif L 21 then some (vU64 (r8.At + (r9.Len - (1 : UInt64)))) else none)], [], [Fact.sl RegionS vl1 l, (bif L 5 then Fact.pt RegionS p13 r7 else Fact.tt), (bif L 6 then Fact.pt u64S p14 r7.At else Fact.tt), (bif L 11 then Fact.pt RegionS p15 r8 else Fact.tt), (bif L 12 then Fact.pt u64S p16 r8.At else Fact.tt), (bif L 17 then Fact.pt RegionS p17 r9 else Fact.tt), (bif L 18 then Fact.pt u64S p18 r9.Len else Fact.tt)]⟩ a w) [([], [5, 6, 7]), ([], [5, 6, 7]), ([3, 4], [6, 7]), ([3, 4, 5], [7]), ([3, 4, 5, 6], []), ([], [11, 12, 13, 21]), ([], [10, 11, 12, 13, 21]), ([9], [11, 12, 13, 21]), ([8, 9, 10], [12, 13, 21]), ([8, 9, 10, 11], [13, 21]), ([8, 9, 10, 11, 12], [21]), ([], [17, 18, 19, 20, 21]), ([], [16, 17, 18, 19, 20, 21]), ([15], [17, 18, 19, 20, 21]), ([14, 15, 16], [18, 19, 20, 21]), ([14, 15, 16, 17], [19, 20, 21]), ([14, 15, 16, 17, 18], [20, 21]), ([14, 15, 16, 17, 18, 19], [21]), ([8, 9, 10, 11, 12, 13, 14, 15, 16, 17, 18, 19, 20], [])] rfl (by kernel_rfl) ?_ (steps_cons ?_ (steps_cons ?_ (steps_cons ?_ (steps_cons ?_ (steps_cons ?_ (steps_cons ?_ (steps_cons ?_ (steps_cons ?_ (steps_cons ?_ (steps_cons ?_ (steps_cons ?_ (steps_cons ?_ (steps_cons ?_ (steps_cons ?_ (steps_cons ?_ (steps_cons ?_ (steps_cons ?_ (steps_cons ?_ (steps_cons ?_ (steps_nil)))))))))))))))))))) ?_
          ·intro a w hs
           exact ⟨undef, undef, undef, undef, undef, undef, hs.startF [58, 59, 60, 61, 62, 63, 64, 65, 66, 67, 68, 69, 70, 71, 72, 73, 74, 75, 76] [] [0, 1, 2, 3, 4, 5, 6] rfl rfl rfl rfl⟩
          ·intro L a w hv K Q hK
           obtain ⟨p13, p14, p15, p16, p17, p18, hs⟩ := hv
           refine wpOp_yes rfl rfl rfl hs (congrArg (fun b => some (Value.bool b)) hg6) (OpT_move rfl rfl rfl rfl) ?_
           rintro _ rfl a' w' hs'
           exact hK a' w' ⟨p13, p14, p15, p16, p17, p18, hs'.putF (i := 4) rfl [] [0, 1, 2, 3, 4, 5, 6] rfl rfl rfl rfl⟩
          ·intro L a w hv K Q hK
           obtain ⟨p13, p14, p15, p16, p17, p18, hs⟩ := hv
           refine wpOp_yes rfl rfl rfl hs (congrArg (fun b => some (Value.bool b)) hg6) (OpT_move rfl rfl rfl rfl) ?_
           rintro _ rfl a' w' hs'
           exact hK a' w' ⟨p13, p14, p15, p16, p17, p18, hs'.putF (i := 5) rfl [] [0, 1, 2, 3, 4, 5, 6] rfl rfl rfl rfl⟩
          ·intro L a w hv K Q hK
           obtain ⟨p13, p14, p15, p16, p17, p18, hs⟩ := hv
           refine wpOp_yes rfl rfl rfl hs (congrArg (fun b => some (Value.bool b)) hg6) (OpT_idxS rfl rfl rfl rfl rfl slF45 (i := 0) rfl hx7) ?_
           rintro _ ⟨p13', rfl⟩ a' w' hs'
           exact hK a' w' ⟨p13', p14, p15, p16, p17, p18, hs'.putF (i := 6) rfl [] [0, 7, 2, 3, 4, 5, 6] rfl rfl rfl rfl⟩
          ·intro L a w hv K Q hK
           obtain ⟨p13, p14, p15, p16, p17, p18, hs⟩ := hv
           refine wpOp_yes rfl rfl rfl hs (congrArg (fun b => some (Value.bool b)) hg6) (OpT_fieldP (S' := u64S) (y := r7.At) rfl rfl rfl rfl fldF44x0 (i := 1) rfl (by intro h cs hr; subst hr; rfl)) ?_
           rintro _ ⟨p14', rfl⟩ a' w' hs'
           exact hK a' w' ⟨p13, p14', p15, p16, p17, p18, hs'.putF (i := 7) rfl [] [0, 1, 7, 3, 4, 5, 6] rfl rfl rfl rfl⟩
          ·intro L a w hv K Q hK
           obtain ⟨p13, p14, p15, p16, p17, p18, hs⟩ := hv
           refine wpOp_yes rfl rfl rfl hs (congrArg (fun b => some (Value.bool b)) hg6) (OpT_loadP rfl rfl rfl rfl tyF22 (i := 2) rfl rfl) ?_
           rintro _ rfl a' w' hs'
           exact hK a' w' ⟨p13, p14, p15, p16, p17, p18, hs'.putF (i := 8) rfl [] [0, 1, 2, 3, 4, 5, 6] rfl rfl rfl rfl⟩
          ·intro L a w hv K Q hK
           obtain ⟨p13, p14, p15, p16, p17, p18, hs⟩ := hv
           refine wpOp_yes rfl rfl rfl hs (congrArg (fun b => some (Value.bool b)) hg6) (OpT_move rfl rfl rfl rfl) ?_
           rintro _ rfl a' w' hs'
           exact hK a' w' ⟨p13, p14, p15, p16, p17, p18, hs'.putF (i := 9) rfl [] [0, 1, 2, 3, 4, 5, 6] rfl rfl rfl rfl⟩
          ·intro L a w hv K Q hK
           obtain ⟨p13, p14, p15, p16, p17, p18, hs⟩ := hv
           refine wpOp_yes rfl rfl rfl hs (congrArg (fun b => some (Value.bool b)) hg6) (OpT_move rfl rfl rfl rfl) ?_
           rintro _ rfl a' w' hs'
           exact hK a' w' ⟨p13, p14, p15, p16, p17, p18, hs'.putF (i := 10) rfl [] [0, 1, 2, 3, 4, 5, 6] rfl rfl rfl rfl⟩
          ·intro L a w hv K Q hK
           obtain ⟨p13, p14, p15, p16, p17, p18, hs⟩ := hv
           refine wpOp_yes rfl rfl rfl hs (congrArg (fun b => some (Value.bool b)) hg6) (OpT_bin rfl rfl rfl rfl rfl (bin_sub_i (a := i1) (b := (1 : Int)))) ?_
           rintro _ rfl a' w' hs'
           exact hK a' w' ⟨p13, p14, p15, p16, p17, p18, hs'.putF (i := 11) rfl [] [0, 1, 2, 3, 4, 5, 6] rfl rfl rfl rfl⟩
          ·intro L a w hv K Q hK
           obtain ⟨p13, p14, p15, p16, p17, p18, hs⟩ := hv
           refine wpOp_yes rfl rfl rfl hs (congrArg (fun b => some (Value.bool b)) hg6) (OpT_idxS rfl rfl rfl rfl rfl slF45 (i := 0) rfl hx8) ?_
           rintro _ ⟨p15', rfl⟩ a' w' hs'
           exact hK a' w' ⟨p13, p14, p15', p16, p17, p18, hs'.putF (i := 12) rfl [] [0, 1, 2, 7, 4, 5, 6] rfl rfl rfl rfl⟩
          ·intro L a w hv K Q hK
           obtain ⟨p13, p14, p15, p16, p17, p18, hs⟩ := hv
           refine wpOp_yes rfl rfl rfl hs (congrArg (fun b => some (Value.bool b)) hg6) (OpT_fieldP (S' := u64S) (y := r8.At) rfl rfl rfl rfl fldF44x0 (i := 3) rfl (by intro h cs hr; subst hr; rfl)) ?_
           rintro _ ⟨p16', rfl⟩ a' w' hs'
           exact hK a' w' ⟨p13, p14, p15, p16', p17, p18, hs'.putF (i := 13) rfl [] [0, 1, 2, 3, 7, 5, 6] rfl rfl rfl rfl⟩
          ·intro L a w hv K Q hK
           obtain ⟨p13, p14, p15, p16, p17, p18, hs⟩ := hv
           refine wpOp_yes rfl rfl rfl hs (congrArg (fun b => some (Value.bool b)) hg6) (OpT_loadP rfl rfl rfl rfl tyF22 (i := 4) rfl rfl) ?_
           rintro _ rfl a' w' hs'
           exact hK a' w' ⟨p13, p14, p15, p16, p17, p18, hs'.putF (i := 14) rfl [] [0, 1, 2, 3, 4, 5, 6] rfl rfl rfl rfl⟩
          ·intro L a w hv K Q hK
           obtain ⟨p13, p14, p15, p16, p17, p18, hs⟩ := hv
           refine wpOp_yes rfl rfl rfl hs (congrArg (fun b => some (Value.bool b)) hg6) (OpT_move rfl rfl rfl rfl) ?_
           rintro _ rfl a' w' hs'
           exact hK a' w' ⟨p13, p14, p15, p16, p17, p18, hs'.putF (i := 15) rfl [] [0, 1, 2, 3, 4, 5, 6] rfl rfl rfl rfl⟩
          ·intro L a w hv K Q hK
           obtain ⟨p13, p14, p15, p16, p17, p18, hs⟩ := hv
           refine wpOp_yes rfl rfl rfl hs (congrArg (fun b => some (Value.bool b)) hg6) (OpT_move rfl rfl rfl rfl) ?_
           rintro _ rfl a' w' hs'
           exact hK a' w' ⟨p13, p14, p15, p16, p17, p18, hs'.putF (i := 16) rfl [] [0, 1, 2, 3, 4, 5, 6] rfl rfl rfl rfl⟩
          ·intro L a w hv K Q hK
           obtain ⟨p13, p14, p15, p16, p17, p18, hs⟩ := hv
           refine wpOp_yes rfl rfl rfl hs (congrArg (fun b => some (Value.bool b)) hg6) (OpT_bin rfl rfl rfl rfl rfl (bin_sub_i (a := i1) (b := (1 : Int)))) ?_
           rintro _ rfl a' w' hs'
           exact hK a' w' ⟨p13, p14, p15, p16, p17, p18, hs'.putF (i := 17) rfl [] [0, 1, 2, 3, 4, 5, 6] rfl rfl rfl rfl⟩
          ·intro L a w hv K Q hK
           obtain ⟨p13, p14, p15, p16, p17, p18, hs⟩ := hv
           refine wpOp_yes rfl rfl rfl hs (congrArg (fun b => some (Value.bool b)) hg6) (OpT_idxS rfl rfl rfl rfl rfl slF45 (i := 0) rfl hx9) ?_
           rintro _ ⟨p17', rfl⟩ a' w' hs'
           exact hK a' w' ⟨p13, p14, p15, p16, p17', p18, hs'.putF (i := 18) rfl [] [0, 1, 2, 3, 4, 7, 6] rfl rfl rfl rfl⟩
          ·intro L a w hv K Q hK
           obtain ⟨p13, p14, p15, p16, p17, p18, hs⟩ := hv
           refine wpOp_yes rfl rfl rfl hs (congrArg (fun b => some (Value.bool b)) hg6) (OpT_fieldP (S' := u64S) (y := r9.Len) rfl rfl rfl rfl fldF44x1 (i := 5) rfl (by intro h cs hr; subst hr; rfl)) ?_
           rintro _ ⟨p18', rfl⟩ a' w' hs'
           exact hK a' w' ⟨p13, p14, p15, p16, p17, p18', hs'.putF (i := 19) rfl [] [0, 1, 2, 3, 4, 5, 7] rfl rfl rfl rfl⟩
          ·intro L a w hv K Q hK
           obtain ⟨p13, p14, p15, p16, p17, p18, hs⟩ := hv
           refine wpOp_yes rfl rfl rfl hs (congrArg (fun b => some (Value.bool b)) hg6) (OpT_loadP rfl rfl rfl rfl tyF22 (i := 6) rfl rfl) ?_
           rintro _ rfl a' w' hs'
           exact hK a' w' ⟨p13, p14, p15, p16, p17, p18, hs'.putF (i := 20) rfl [] [0, 1, 2, 3, 4, 5, 6] rfl rfl rfl rfl⟩
          ·intro L a w hv K Q hK
           obtain ⟨p13, p14, p15, p16, p17, p18, hs⟩ := hv
           refine wpOp_yes rfl rfl rfl hs (congrArg (fun b => some (Value.bool b)) hg6) (OpT_bin rfl rfl rfl rfl rfl (bin_sub_u64 (a := r9.Len) (b := (1 : UInt64)))) ?_
           rintro _ rfl a' w' hs'
           exact hK a' w' ⟨p13, p14, p15, p16, p17, p18, hs'.putF (i := 21) rfl [] [0, 1, 2, 3, 4, 5, 6] rfl rfl rfl rfl⟩
          ·intro L a w hv K Q hK
           obtain ⟨p13, p14, p15, p16, p17, p18, hs⟩ := hv
           refine wpOp_yes rfl rfl rfl hs (congrArg (fun b => some (Value.bool b)) hg6) (OpT_bin rfl rfl rfl rfl rfl (bin_add_u64 (a := r8.At) (b := r9.Len - (1 : UInt64)))) ?_
           rintro _ rfl a' w' hs'
           exact hK a' w' ⟨p13, p14, p15, p16, p17, p18, hs'.putF (i := 22) rfl [] [0, 1, 2, 3, 4, 5, 6] rfl rfl rfl rfl⟩
          ·intro L a w hL hv
           rw [allTrue hL] at hv
           obtain ⟨p13, p14, p15, p16, p17, p18, hs⟩ := hv
           refine (show TA _ _ _ 22 ⟨[(0, some (vl1)), (3, some (vU64 (sum1 + r6.Len))), (4, some (vI i1)), (57, some (vB (decide (i1 > (0 : Int))))), (62, some (vU64 r7.At)), (76, some (vU64 (r8.At + (r9.Len - (1 : UInt64)))))], [], [Fact.sl RegionS vl1 l]⟩ from ?_) a w (hs.wkS [0, 3, 4, 57, 62, 76] [] [0] rfl rfl rfl rfl)
           clear hs hL
           refine TA_yes htb (by kernel_rfl) rfl rfl rfl (congrArg (fun b => some (Value.bool b)) hg6) (OpT_bin rfl rfl rfl rfl rfl (bin_leq_u64 (a := r7.At) (b := r8.At + (r9.Len - (1 : UInt64))))) ?_
           rintro _ rfl
           refine TA_step htb (by kernel_rfl) rfl rfl (OpT_pickT rfl rfl rfl (congrArg (fun b => some (Value.bool b)) hg6) rfl) ?_
           refine TA_end rfl ?_
           refine Tk_wkS (fr' := [(0, some (vl1)), (3, some (vU64 (sum1 + r6.Len))), (4, some (vI i1)), (78, some (vB (decide (r7.At ≤ (r8.At + (r9.Len - (1 : UInt64)))))))]) (own' := []) (shr' := [Fact.sl RegionS vl1 l]) [0, 3, 4, 78] [] [0] rfl rfl rfl rfl ?_
           rcases Bool.eq_false_or_eq_true (decide (r7.At ≤ (r8.At + (r9.Len - (1 : UInt64))))) with hg7 | hg7
           ·replace h := br_t hg7 h
            refine Tk_condT (congrArg (fun b => some (Value.bool b)) hg7) ?_
            refine Tk_seq (Tk_region (Tops_step rfl (OpT_assign rfl rfl rfl rfl) ?_))
            refine Tops_nil (Tk_wkS (fr' := [(2, some (vI (2 : Int)))]) (own' := []) (shr' := []) [2] [] [] rfl rfl rfl rfl ?_)
            obtain rfl := Option.some.inj h
            exact Tk_retV rfl rfl (resA (vs := [vI (2 : Int)]) rfl ⟨rfl, trivial⟩) [] [] rfl rfl rfl ⟨rfl, rfl, rfl⟩
           ·replace h := br_f hg7 h
            refine Tk_condF (congrArg (fun b => some (Value.bool b)) hg7) ?_
            refine Tk_skip (Tk_blk (Tk_region (Tops_step rfl (OpT_move rfl rfl rfl rfl) ?_)))
            refine Tops_step rfl (OpT_bin rfl rfl rfl rfl rfl (bin_add_i (a := i1) (b := (1 : Int)))) ?_
            refine Tops_step rfl (OpT_assign rfl rfl rfl rfl) ?_
            refine Tops_nil (Tk_wkS (fr' := [(0, some (vl1)), (3, some (vU64 (sum1 + r6.Len))), (4, some (vI (wi (i1 + (1 : Int)))))]) (own' := []) (shr' := [Fact.sl RegionS vl1 l]) [0, 3, 4] [] [0] rfl rfl rfl rfl ?_)
            exact Tk_backS (sum1 + r6.Len, wi (i1 + (1 : Int))) h [0, 3, 4] [] [0] rfl rfl rfl rfl rfl
         ·replace h := br_f hg6 h
          refine TA_seg (lo := 3) (hi := 22) htb rfl rfl (by kernel_rfl) (fun c L a w => Sat c ⟨[(0, some (vl1)), (3, some (vU64 (sum1 + r6.Len))), (4, some (vI i1)), (57, some (vB (decide (i1 > (0 : Int))))), (58, bif L 3 then some (undef) else none), (59, bif L 4 then some (undef) else none), (60, bif L 5 then some (undef) else none), (61, bif L 6 then some (undef) else none), (62, bif L 7 then some (undef) else none), (63, bif L 8 then some (undef) else none), (64, bif L 9 then some (undef) else none), (65, bif L 10 then some (undef) else none), (66, bif L 11 then some (undef) else none), (67, bif L 12 then some (undef) else none), (68, bif L 13 then some (undef) else none), (69, bif L 14 then some (undef) else none), (70, bif L 15 then some (undef) else none), (71, bif L 16 then some (undef) else none), (72, bif L 17 then some (undef) else none), (73, bif L 18 then some (undef) else none), (74, bif L 19 then some (undef) else none), (75, bif L 20 then some (undef) else none), (76, bif L 21 then some (undef) else none)], [], [Fact.sl RegionS vl1 l]⟩ a w) [([], [5, 6, 7]), ([], [5, 6, 7]), ([3, 4], [6, 7]), ([3, 4, 5], [7]), ([3, 4, 5, 6], []), ([], [11, 12, 13, 21]), ([], [10, 11, 12, 13, 21]), ([9], [11, 12, 13, 21]), ([8, 9, 10], [12, 13, 21]), ([8, 9, 10, 11], [13, 21]), ([8, 9, 10, 11, 12], [21]), ([], [17, 18, 19, 20, 21]), ([], [16, 17, 18, 19, 20, 21]), ([15], [17, 18, 19, 20, 21]), ([14, 15, 16], [18, 19, 20, 21]), ([14, 15, 16, 17], [19, 20, 21]), ([14, 15, 16, 17, 18], [20, 21]), ([14, 15, 16, 17, 18, 19], [21]), ([8, 9, 10, 11, 12, 13, 14, 15, 16, 17, 18, 19, 20], [])] rfl (by kernel_rfl) ?_ (steps_cons ?_ (steps_cons ?_ (steps_cons ?_ (steps_cons ?_ (steps_cons ?_ (steps_cons ?_ (steps_cons ?_ (steps_cons ?_ (steps_cons ?_ (steps_cons ?_ (steps_cons ?_ (steps_cons ?_ (steps_cons ?_ (steps_cons ?_ (steps_cons ?_ (steps_cons ?_ (steps_cons ?_ (steps_cons ?_ (steps_cons ?_ (steps_nil)))))))))))))))))))) ?_
          ·intro a w hs
           exact hs.startF [58, 59, 60, 61, 62, 63, 64, 65, 66, 67, 68, 69, 70, 71, 72, 73, 74, 75, 76] [] [0] rfl rfl rfl rfl
          ·intro L a w hv K Q hK
           have hs := hv
           refine wpOp_no rfl rfl rfl hs (congrArg (fun b => some (Value.bool b)) hg6) rfl rfl ?_
           intro a' w' hs'
           exact hK a' w' (hs'.putF (i := 4) rfl [] [0] rfl rfl rfl rfl)
          ·intro L a w hv K Q hK
           have hs := hv
           refine wpOp_no rfl rfl rfl hs (congrArg (fun b => some (Value.bool b)) hg6) rfl rfl ?_
           intro a' w' hs'
           exact hK a' w' (hs'.putF (i := 5) rfl [] [0] rfl rfl rfl rfl)
          ·intro L a w hv K Q hK
           have hs := hv
           refine wpOp_no rfl rfl rfl hs (congrArg (fun b => some (Value.bool b)) hg6) rfl rfl ?_
           intro a' w' hs'
           exact hK a' w' (hs'.putF (i := 6) rfl [] [0] rfl rfl rfl rfl)
          ·intro L a w hv K Q hK
           have hs := hv
           refine wpOp_no rfl rfl rfl hs (congrArg (fun b => some (Value.bool b)) hg6) rfl rfl ?_
           intro a' w' hs'
           exact hK a' w' (hs'.putF (i := 7) rfl [] [0] rfl rfl rfl rfl)
          ·intro L a w hv K Q hK
           have hs := hv
           refine wpOp_no rfl rfl rfl hs (congrArg (fun b => some (Value.bool b)) hg6) rfl rfl ?_
           intro a' w' hs'
           exact hK a' w' (hs'.putF (i := 8) rfl [] [0] rfl rfl rfl rfl)
          ·intro L a w hv K Q hK
           have hs := hv
           refine wpOp_no rfl rfl rfl hs (congrArg (fun b => some (Value.bool b)) hg6) rfl rfl ?_
           intro a' w' hs'
           exact hK a' w' (hs'.putF (i := 9) rfl [] [0] rfl rfl rfl rfl)
          ·intro L a w hv K Q hK
           have hs := hv
           refine wpOp_no rfl rfl rfl hs (congrArg (fun b => some (Value.bool b)) hg6) rfl rfl ?_
           intro a' w' hs'
           exact hK a' w' (hs'.putF (i := 10) rfl [] [0] rfl rfl rfl rfl)
          ·intro L a w hv K Q hK
           have hs := hv
           refine wpOp_no rfl rfl rfl hs (congrArg (fun b => some (Value.bool b)) hg6) rfl rfl ?_
           intro a' w' hs'
           exact hK a' w' (hs'.putF (i := 11) rfl [] [0] rfl rfl rfl rfl)
          ·intro L a w hv K Q hK
           have hs := hv
           refine wpOp_no rfl rfl rfl hs (congrArg (fun b => some (Value.bool b)) hg6) rfl rfl ?_
           intro a' w' hs'
           exact hK a' w' (hs'.putF (i := 12) rfl [] [0] rfl rfl rfl rfl)
          ·intro L a w hv K Q hK
           have hs := hv
           refine wpOp_no rfl rfl rfl hs (congrArg (fun b => some (Value.bool b)) hg6) rfl rfl ?_
           intro a' w' hs'
           exact hK a' w' (hs'.putF (i := 13) rfl [] [0] rfl rfl rfl rfl)
          ·intro L a w hv K Q hK
           have hs := hv
           refine wpOp_no rfl rfl rfl hs (congrArg (fun b => some (Value.bool b)) hg6) rfl rfl ?_
           intro a' w' hs'
           exact hK a' w' (hs'.putF (i := 14) rfl [] [0] rfl rfl rfl rfl)
          ·intro L a w hv K Q hK
           have hs := hv
           refine wpOp_no rfl rfl rfl hs (congrArg (fun b => some (Value.bool b)) hg6) rfl rfl ?_
           intro a' w' hs'
           exact hK a' w' (hs'.putF (i := 15) rfl [] [0] rfl rfl rfl rfl)
          ·intro L a w hv K Q hK
           have hs := hv
           refine wpOp_no rfl rfl rfl hs (congrArg (fun b => some (Value.bool b)) hg6) rfl rfl ?_
           intro a' w' hs'
           exact hK a' w' (hs'.putF (i := 16) rfl [] [0] rfl rfl rfl rfl)
          ·intro L a w hv K Q hK
           have hs := hv
           refine wpOp_no rfl rfl rfl hs (congrArg (fun b => some (Value.bool b)) hg6) rfl rfl ?_
           intro a' w' hs'
           exact hK a' w' (hs'.putF (i := 17) rfl [] [0] rfl rfl rfl rfl)
          ·intro L a w hv K Q hK
           have hs := hv
           refine wpOp_no rfl rfl rfl hs (congrArg (fun b => some (Value.bool b)) hg6) rfl rfl ?_
           intro a' w' hs'
           exact hK a' w' (hs'.putF (i := 18) rfl [] [0] rfl rfl rfl rfl)
          ·intro L a w hv K Q hK
           have hs := hv
           refine wpOp_no rfl rfl rfl hs (congrArg (fun b => some (Value.bool b)) hg6) rfl rfl ?_
           intro a' w' hs'
           exact hK a' w' (hs'.putF (i := 19) rfl [] [0] rfl rfl rfl rfl)
          ·intro L a w hv K Q hK
           have hs := hv
           refine wpOp_no rfl rfl rfl hs (congrArg (fun b => some (Value.bool b)) hg6) rfl rfl ?_
           intro a' w' hs'
           exact hK a' w' (hs'.putF (i := 20) rfl [] [0] rfl rfl rfl rfl)
          ·intro L a w hv K Q hK
           have hs := hv
           refine wpOp_no rfl rfl rfl hs (congrArg (fun b => some (Value.bool b)) hg6) rfl rfl ?_
           intro a' w' hs'
           exact hK a' w' (hs'.putF (i := 21) rfl [] [0] rfl rfl rfl rfl)
          ·intro L a w hv K Q hK
           have hs := hv
           refine wpOp_no rfl rfl rfl hs (congrArg (fun b => some (Value.bool b)) hg6) rfl rfl ?_
           intro a' w' hs'
           exact hK a' w' (hs'.putF (i := 22) rfl [] [0] rfl rfl rfl rfl)
          ·intro L a w hL hv
           rw [allTrue hL] at hv
           have hs := hv
           refine (show TA _ _ _ 22 ⟨[(0, some (vl1)), (3, some (vU64 (sum1 + r6.Len))), (4, some (vI i1)), (57, some (vB (decide (i1 > (0 : Int))))), (62, some (undef)), (76, some (undef))], [], [Fact.sl RegionS vl1 l]⟩ from ?_) a w (hs.wkS [0, 3, 4, 57, 62, 76] [] [0] rfl rfl rfl rfl)
           clear hs hL
           refine TA_no htb (by kernel_rfl) rfl rfl rfl (congrArg (fun b => some (Value.bool b)) hg6) rfl rfl ?_
           refine TA_step htb (by kernel_rfl) rfl rfl (OpT_pickF rfl rfl rfl (congrArg (fun b => some (Value.bool b)) hg6) rfl) ?_
           refine TA_end rfl ?_
           refine Tk_wkS (fr' := [(0, some (vl1)), (3, some (vU64 (sum1 + r6.Len))), (4, some (vI i1)), (78, some (vB false))]) (own' := []) (shr' := [Fact.sl RegionS vl1 l]) [0, 3, 4, 78] [] [0] rfl rfl rfl rfl ?_
           refine Tk_condF rfl ?_
           refine Tk_skip (Tk_blk (Tk_region (Tops_step rfl (OpT_move rfl rfl rfl rfl) ?_)))
           refine Tops_step rfl (OpT_bin rfl rfl rfl rfl rfl (bin_add_i (a := i1) (b := (1 : Int)))) ?_
           refine Tops_step rfl (OpT_assign rfl rfl rfl rfl) ?_
           refine Tops_nil (Tk_wkS (fr' := [(0, some (vl1)), (3, some (vU64 (sum1 + r6.Len))), (4, some (vI (wi (i1 + (1 : Int)))))]) (own' := []) (shr' := [Fact.sl RegionS vl1 l]) [0, 3, 4] [] [0] rfl rfl rfl rfl ?_)
           exact Tk_backS (sum1 + r6.Len, wi (i1 + (1 : Int))) h [0, 3, 4] [] [0] rfl rfl rfl rfl rfl
  ·replace h := br_f hg2 h
   refine Tk_condF (congrArg (fun b => some (Value.bool b)) hg2) ?_
   refine Tk_exit _ rfl ?_
   refine Tk_seq (Tk_seq (Tk_region (Tops_step rfl (OpT_move rfl rfl rfl rfl) ?_)))
   refine Tops_step rfl (OpT_bin rfl rfl rfl rfl rfl (bin_gtr_u64 (a := sum1) (b := (1048576 : UInt64)))) ?_
   refine Tops_nil (Tk_wkS (fr' := [(80, some (vB (decide (sum1 > (1048576 : UInt64)))))]) (own' := []) (shr' := []) [80] [] [] rfl rfl rfl rfl ?_)
   rcases Bool.eq_false_or_eq_true (decide (sum1 > (1048576 : UInt64))) with hg8 | hg8
   ·replace h := br_t hg8 h
    refine Tk_condT (congrArg (fun b => some (Value.bool b)) hg8) ?_
    refine Tk_seq (Tk_region (Tops_step rfl (OpT_assign rfl rfl rfl rfl) ?_))
    refine Tops_nil (Tk_wkS (fr' := [(2, some (vI (2 : Int)))]) (own' := []) (shr' := []) [2] [] [] rfl rfl rfl rfl ?_)
    obtain rfl := Option.some.inj h
    exact Tk_retV rfl rfl (resA (vs := [vI (2 : Int)]) rfl ⟨rfl, trivial⟩) [] [] rfl rfl rfl ⟨rfl, rfl, rfl⟩
   ·replace h := br_f hg8 h
    refine Tk_condF (congrArg (fun b => some (Value.bool b)) hg8) ?_
    refine Tk_skip (Tk_seq (Tk_region (Tops_step rfl (OpT_assign rfl rfl rfl rfl) ?_)))
    refine Tops_nil (Tk_wkS (fr' := [(2, some (vI (0 : Int)))]) (own' := []) (shr' := []) [2] [] [] rfl rfl rfl rfl ?_)
    obtain rfl := Option.some.inj h
    exact Tk_retV rfl rfl (resA (vs := [vI (0 : Int)]) rfl ⟨rfl, trivial⟩) [] [] rfl rfl rfl ⟨rfl, rfl, rfl⟩

set_option maxRecDepth 100000 in
set_option maxHeartbeats 4000000 in
theorem w_ref_New02 {l : List Region} {vl1 : Value} {r : ((Option dumbwaiterref02_Mem) × Int)} (h : ref_New02 l = some r) :
  Ctr Try.prog 25 #[vl1] [] [Fact.sl RegionS vl1 l]
   (fun rv own shr => ∃ (w1 : Value), rv = .tuple #[w1, vI r.2] ∧ own = [(optR 79 RegionS u8S false dumbwaiterref02_Mem.L dumbwaiterref02_Mem.B w1 r.1)] ∧ shr = []) := by
 unfold ref_New02 at h
 refine Ctr.mk (args := [vl1]) Try.func25 rfl rfl (fun R0 w0 B => ?_)
 refine Tk_seq (Tk_region (Tops_step rfl (OpT_assign rfl rfl rfl rfl) ?_))
 refine Tops_step rfl (OpT_assign rfl rfl rfl rfl) ?_
 refine Tops_nil (Tk_wkS (fr' := [(0, some (vl1))]) (own' := []) (shr' := [Fact.sl RegionS vl1 l]) [0] [] [0] rfl rfl rfl rfl ?_)
 refine Tk_seq (Tk_seq (Tk_region (Tops_step rfl (OpT_move rfl rfl rfl rfl) ?_)))
 obtain ⟨check1, hx1, h⟩ := ob_e h
 refine Tops_exP rfl (OpT_call (w_ref_Check02 hx1) [] [0] rfl rfl rfl rfl rfl callee40 rfl rfl rfl rfl) ?_
 rintro _ ⟨_, _, _, ⟨rfl, rfl, rfl⟩, rfl⟩
 refine Tops_step rfl (OpT_bin rfl rfl rfl rfl rfl (bin_neq_i (a := check1) (b := (0 : Int)))) ?_
 refine Tops_nil (Tk_wkS (fr' := [(0, some (vl1)), (8, some (vB (check1 != (0 : Int))))]) (own' := []) (shr' := [Fact.sl RegionS vl1 l]) [0, 8] [] [0] rfl rfl rfl rfl ?_)
 rcases Bool.eq_false_or_eq_true (check1 != (0 : Int)) with hg1 | hg1
 ·replace h := br_t hg1 h
  refine Tk_condT (congrArg (fun b => some (Value.bool b)) hg1) ?_
  refine Tk_seq (Tk_region (Tops_step rfl (OpT_assign rfl rfl rfl rfl) ?_))
  refine Tops_step rfl (OpT_assign rfl rfl rfl rfl) ?_
  refine Tops_nil (Tk_wkS (fr' := [(2, some (.pointer none)), (3, some (vI (2 : Int)))]) (own' := []) (shr' := []) [2, 3] [] [] rfl rfl rfl rfl ?_)
  refine Tk_nilopt 79 RegionS u8S false dumbwaiterref02_Mem.L dumbwaiterref02_Mem.B ?_
  obtain rfl := Option.some.inj h
  exact Tk_retV rfl rfl (resA (vs := [.pointer none, vI (2 : Int)]) rfl ⟨rfl, rfl, trivial⟩) [0] [] rfl rfl rfl ⟨(.pointer none), rfl, rfl, rfl⟩
 ·replace h := br_f hg1 h
  refine Tk_condF (congrArg (fun b => some (Value.bool b)) hg1) ?_
  refine Tk_skip (Tk_seq (Tk_region (Tops_ex rfl (OpT_buildSlice (S := RegionS) (xs := ([] : List Region)) (css := []) (cs := []) (e := 44) rfl rfl rfl rfl (bldF slF45 (by decide) (by kernel_rfl)) rfl rfl rfl rfl (rel_plainD (S := RegionS) (xs := ([] : List Region)) (css := []) rfl rfl)) fun v1 => ?_)))
  refine Tops_step rfl (OpT_move rfl rfl rfl rfl) ?_
  obtain ⟨hc1, h⟩ := chk_e h
  refine Tops_ex rfl (OpT_append rfl rfl rfl rfl rfl slF45 (i := 0) (j := 0) rfl rfl hc1) fun v2 => ?_
  refine Tops_step rfl (OpT_build1 (fun z0 => [(0, z0)]) (fun z0 => [z0, .slice none 0 0]) rfl rfl rfl rfl (is_row (i := 0) rfl) (by intros; kernel_rfl)) ?_
  refine Tops_vs (vs_nilrows (S := u8S)) ?_
  refine Tops_ex rfl (OpT_box rfl rfl rfl rfl) fun b1 => ?_
  refine Tops_step rfl (OpT_assign rfl rfl rfl rfl) ?_
  refine Tops_nil (Tk_wkS (fr' := [(0, some (vl1)), (4, some (.pointer (some ⟨b1, 0, none⟩)))]) (own' := [some (rowS RegionS v2 l), some (rowsX u8S false (.slice none 0 0) [] ([] : List (List UInt8)) none), some (cellsR b1 79 [v2, .slice none 0 0])]) (shr' := [Fact.sl RegionS vl1 l]) [0, 4] [0, 1, 2] [0] rfl rfl rfl rfl ?_)
  refine Tk_seq (Tk_seq (Tk_region (Tops_step rfl (OpT_assign rfl rfl rfl rfl) ?_)))
  refine Tops_nil (Tk_block (Tk_loopS (σ := (List Region) × (List (List UInt8)) × Int × Value × Value × (List Value)) [0, 4, 5] [2, 0, 1] [0] (fun s => ⟨[(0, some (vl1)), (4, some (.pointer (some ⟨b1, 0, none⟩))), (5, some (vI s.2.2.1))], [some (cellsR b1 79 [s.2.2.2.1, s.2.2.2.2.1]), some (rowS RegionS s.2.2.2.1 s.1), some (rowsX u8S false s.2.2.2.2.1 s.2.2.2.2.2 s.2.1 none)], [Fact.sl RegionS vl1 l]⟩) (fun nf1 s => ref_New02L1 l nf1 s.1 s.2.1 s.2.2.1 = some r) fuel (l, ([] : List (List UInt8)), (0 : Int), v2, (.slice none 0 0), []) h rfl rfl rfl rfl rfl (fun s h => by cases h) ?_))
  rintro nf1 ⟨l1, rows1, i1, v3, v4, vs1⟩ h
  replace h : ref_New02L1B l (ref_New02L1 l nf1) l1 rows1 i1 = some r := h
  unfold ref_New02L1B at h
  refine Tk_seq (Tk_seq (Tk_region (Tops_step rfl (OpT_move rfl rfl rfl rfl) ?_)))
  refine Tops_step rfl (OpT_move rfl rfl rfl rfl) ?_
  refine Tops_step rfl (OpT_lenS rfl rfl rfl rfl Try.underlying45 (i := 0) rfl) ?_
  refine Tops_step rfl (OpT_bin rfl rfl rfl rfl rfl (bin_lss_i (a := i1) (b := len l))) ?_
  refine Tops_nil (Tk_wkS (fr' := [(0, some (vl1)), (4, some (.pointer (some ⟨b1, 0, none⟩))), (5, some (vI i1)), (17, some (vB (decide (i1 < (len l)))))]) (own' := [some (cellsR b1 79 [v3, v4]), some (rowS RegionS v3 l1), some (rowsX u8S false v4 vs1 rows1 none)]) (shr' := [Fact.sl RegionS vl1 l]) [0, 4, 5, 17] [0, 1, 2] [0] rfl rfl rfl rfl ?_)
  rcases Bool.eq_false_or_eq_true (decide (i1 < (len l))) with hg2 | hg2
  ·replace h := br_t hg2 h
   refine Tk_condT (congrArg (fun b => some (Value.bool b)) hg2) ?_
   refine Tk_skip (Tk_seq (Tk_block (Tk_drawT (by kernel_rfl) ?_)))
   refine TA_tb [0, 0, 2, 6, 14, 0, 0, 96, 224, 480, 992, 2016, 4094, 8191, 16383, 32767] (by kernel_rfl) fun htb => ?_
   refine TA_wkS (fr' := [(0, some (vl1)), (4, some (.pointer (some ⟨b1, 0, none⟩))), (5, some (vI i1))]) (own' := [some (cellsR b1 79 [v3, v4]), some (rowS RegionS v3 l1), some (rowsX u8S false v4 vs1 rows1 none)]) (shr' := [Fact.sl RegionS vl1 l]) [0, 4, 5] [0, 1, 2] [0] rfl rfl rfl rfl ?_
   obtain ⟨r1, hx2, h⟩ := ob_e h
   obtain ⟨hc2, h⟩ := chk_e h
   obtain ⟨hc3, h⟩ := chk_e h
   refine TA_seg (lo := 0) (hi := 13) htb rfl rfl (by kernel_rfl) (fun c L a w => ∃ (p1 : Value), ∃ (p2 : Value), ∃ (v5 : Value), ∃ (v6 : Value), ∃ (pp1 : Value × List Value), Sat c ⟨[(0, some (vl1)), (4, some (.pointer (some ⟨b1, 0, none⟩))), (5, some (vI i1)), (20, bif L 0 then some (.pointer (some ⟨b1, 0, none⟩)) else none), (21, bif L 1 then some (.pointer (some ⟨b1, 0, none⟩)) else none), (22, bif L 2 then some (.pointer (some ⟨b1, 0, none⟩)) else none), (23, bif L 3 then some (.pointer (some ⟨b1, 1, none⟩)) else none), (24, bif L 4 then some (v4) else none), (25, bif L 5 then some (vl1) else none), (26, bif L 6 then some (vI i1) else none), (27, bif L 7 then some (p1) else none), (28, bif L 8 then some (p2) else none), (29, bif L 9 then some (vU64 r1.Len) else none), (30, bif L 10 then some (v5) else none), (31, bif L 11 then some (v6) else none), (32, bif L 12 then some (pp1.1) else none)], [(some (cellsR b1 79 [v3, v4]) : Option Res), (some (rowS RegionS v3 l1) : Option Res), (bif L 12 then some (rowsX u8S false pp1.1 pp1.2 (rows1 ++ [List.replicate (Int.toNat (r1.Len.toNat : Int)) (0 : UInt8)]) none) else some (rowsX u8S false v4 vs1 rows1 none) : Option Res), (bif L 12 then none else bif L 10 then some (rowS u8S v5 (List.replicate (Int.toNat (r1.Len.toNat : Int)) (0 : UInt8))) else none : Option Res), (bif L 12 then none else bif L 11 then some (rowS valS v6 [v5]) else none : Option Res)], [Fact.sl RegionS vl1 l, (bif L 7 then Fact.pt RegionS p1 r1 else Fact.tt), (bif L 8 then Fact.pt u64S p2 r1.Len else Fact.tt)]⟩ a w) [([], []), ([], [2, 3, 4, 12]), ([1], [3, 4, 12]), ([1, 2], [4, 12]), ([1, 2, 3], [12]), ([], [7, 8, 9, 10, 11, 12]), ([], [7, 8, 9, 10, 11, 12]), ([5, 6], [8, 9, 10, 11, 12]), ([5, 6, 7], [9, 10, 11, 12]), ([5, 6, 7, 8], [10, 11, 12]), ([5, 6, 7, 8, 9], [11, 12]), ([5, 6, 7, 8, 9, 10], [12]), ([1, 2, 3, 4, 5, 6, 7, 8, 9, 10, 11], [])] rfl (by kernel_rfl) ?_ (steps_cons ?_ (steps_cons ?_ (steps_cons ?_ (steps_cons ?_ (steps_cons ?_ (steps_cons ?_ (steps_cons ?_ (steps_cons ?_ (steps_cons ?_ (steps_cons ?_ (steps_cons ?_ (steps_cons ?_ (steps_cons ?_ (steps_nil)))))))))))))) ?_
   ·intro a w hs
    exact ⟨undef, undef, undef, undef, (undef, []), hs.startF [20, 21, 22, 23, 24, 25, 26, 27, 28, 29, 30, 31, 32] [0, 1, 2, 3, 4] [0, 1, 2] rfl rfl rfl rfl⟩
   ·intro L a w hv K Q hK
    obtain ⟨p1, p2, v5, v6, pp1, hs⟩ := hv
    refine wpOp_go rfl rfl hs (OpT_move rfl rfl rfl rfl) ?_
    rintro _ rfl a' w' hs'
    exact hK a' w' ⟨p1, p2, v5, v6, pp1, hs'.putF (i := 3) rfl [0, 1, 2, 3, 4] [0, 1, 2] rfl rfl rfl rfl⟩
   ·intro L a w hv K Q hK
    obtain ⟨p1, p2, v5, v6, pp1, hs⟩ := hv
    refine wpOp_go rfl rfl hs (OpT_move rfl rfl rfl rfl) ?_
    rintro _ rfl a' w' hs'
    exact hK a' w' ⟨p1, p2, v5, v6, pp1, hs'.putF (i := 4) rfl [0, 1, 2, 3, 4] [0, 1, 2] rfl rfl rfl rfl⟩
   ·intro L a w hv K Q hK
    obtain ⟨p1, p2, v5, v6, pp1, hs⟩ := hv
    refine wpOp_go rfl rfl hs (OpT_nilCheckP rfl rfl rfl rfl) ?_
    rintro _ rfl a' w' hs'
    exact hK a' w' ⟨p1, p2, v5, v6, pp1, hs'.putF (i := 5) rfl [0, 1, 2, 3, 4] [0, 1, 2] rfl rfl rfl rfl⟩
   ·intro L a w hv K Q hK
    obtain ⟨p1, p2, v5, v6, pp1, hs⟩ := hv
    refine wpOp_go rfl rfl hs (OpT_fieldC rfl rfl rfl rfl fldF79x1) ?_
    rintro _ rfl a' w' hs'
    exact hK a' w' ⟨p1, p2, v5, v6, pp1, hs'.putF (i := 6) rfl [0, 1, 2, 3, 4] [0, 1, 2] rfl rfl rfl rfl⟩
   ·intro L a w hv K Q hK
    obtain ⟨p1, p2, v5, v6, pp1, hs⟩ := hv
    refine wpOp_go rfl rfl hs (OpT_loadC rfl rfl rfl rfl tyF70 (i := 0) rfl rfl) ?_
    rintro _ rfl a' w' hs'
    exact hK a' w' ⟨p1, p2, v5, v6, pp1, hs'.putF (i := 7) rfl [0, 1, 2, 3, 4] [0, 1, 2] rfl rfl rfl rfl⟩
   ·intro L a w hv K Q hK
    obtain ⟨p1, p2, v5, v6, pp1, hs⟩ := hv
    refine wpOp_go rfl rfl hs (OpT_move rfl rfl rfl rfl) ?_
    rintro _ rfl a' w' hs'
    exact hK a' w' ⟨p1, p2, v5, v6, pp1, hs'.putF (i := 8) rfl [0, 1, 2, 3, 4] [0, 1, 2] rfl rfl rfl rfl⟩
   ·intro L a w hv K Q hK
    obtain ⟨p1, p2, v5, v6, pp1, hs⟩ := hv
    refine wpOp_go rfl rfl hs (OpT_move rfl rfl rfl rfl) ?_
    rintro _ rfl a' w' hs'
    exact hK a' w' ⟨p1, p2, v5, v6, pp1, hs'.putF (i := 9) rfl [0, 1, 2, 3, 4] [0, 1, 2] rfl rfl rfl rfl⟩
   ·intro L a w hv K Q hK
    obtain ⟨p1, p2, v5, v6, pp1, hs⟩ := hv
    refine wpOp_go rfl rfl hs (OpT_idxS rfl rfl rfl rfl rfl slF45 (i := 0) rfl hx2) ?_
    rintro _ ⟨p1', rfl⟩ a' w' hs'
    exact hK a' w' ⟨p1', p2, v5, v6, pp1, hs'.putF (i := 10) rfl [0, 1, 2, 3, 4] [0, 3, 2] rfl rfl rfl rfl⟩
   ·intro L a w hv K Q hK
    obtain ⟨p1, p2, v5, v6, pp1, hs⟩ := hv
    refine wpOp_go rfl rfl hs (OpT_fieldP (S' := u64S) (y := r1.Len) rfl rfl rfl rfl fldF44x1 (i := 1) rfl (by intro h cs hr; subst hr; rfl)) ?_
    rintro _ ⟨p2', rfl⟩ a' w' hs'
    exact hK a' w' ⟨p1, p2', v5, v6, pp1, hs'.putF (i := 11) rfl [0, 1, 2, 3, 4] [0, 1, 3] rfl rfl rfl rfl⟩
   ·intro L a w hv K Q hK
    obtain ⟨p1, p2, v5, v6, pp1, hs⟩ := hv
    refine wpOp_go rfl rfl hs (OpT_loadP rfl rfl rfl rfl tyF22 (i := 2) rfl rfl) ?_
    rintro _ rfl a' w' hs'
    exact hK a' w' ⟨p1, p2, v5, v6, pp1, hs'.putF (i := 12) rfl [0, 1, 2, 3, 4] [0, 1, 2] rfl rfl rfl rfl⟩
   ·intro L a w hv K Q hK
    obtain ⟨p1, p2, v5, v6, pp1, hs⟩ := hv
    refine wpOp_go rfl rfl hs (OpT_makeK u8S rfl (u := (0 : UInt8)) rfl rfl rfl rfl rfl slF73 rfl hc2) ?_
    rintro _ ⟨v5', rfl⟩ a' w' hs'
    exact hK a' w' ⟨p1, p2, v5', v6, pp1, hs'.putF (i := 13) rfl [0, 1, 2, 5, 4] [0, 1, 2] rfl rfl rfl rfl⟩
   ·intro L a w hv K Q hK
    obtain ⟨p1, p2, v5, v6, pp1, hs⟩ := hv
    refine wpOp_go rfl rfl hs (OpT_buildV (u := v5) rfl rfl rfl rfl slF70 (i := 3) rfl) ?_
    rintro _ ⟨v6', rfl⟩ a' w' hs'
    exact hK a' w' ⟨p1, p2, v5, v6', pp1, hs'.putF (i := 14) rfl [0, 1, 2, 3, 5] [0, 1, 2] rfl rfl rfl rfl⟩
   ·intro L a w hv K Q hK
    obtain ⟨p1, p2, v5, v6, pp1, hs⟩ := hv
    refine wpOp_go rfl rfl hs (OpT_appendRows (u := v5) rfl rfl rfl rfl rfl slF70 (i := 2) (j := 4) (q := 3) rfl rfl rfl rfl rfl rfl hc3) ?_
    rintro _ ⟨pp1', rfl⟩ a' w' hs'
    exact hK a' w' ⟨p1, p2, v5, v6, pp1', hs'.putF (i := 15) rfl [0, 1, 2, 3, 4] [0, 1, 2] rfl rfl rfl rfl⟩
   ·intro L a w hL hv
    rw [allTrue hL] at hv
    obtain ⟨p1, p2, v5, v6, pp1, hs⟩ := hv
    refine (show TA _ _ _ 13 ⟨[(0, some (vl1)), (4, some (.pointer (some ⟨b1, 0, none⟩))), (5, some (vI i1)), (20, some (.pointer (some ⟨b1, 0, none⟩))), (32, some (pp1.1))], [some (cellsR b1 79 [v3, v4]), some (rowS RegionS v3 l1), some (rowsX u8S false pp1.1 pp1.2 (rows1 ++ [List.replicate (Int.toNat (r1.Len.toNat : Int)) (0 : UInt8)]) none)], [Fact.sl RegionS vl1 l]⟩ from ?_) a w (hs.wkS [0, 4, 5, 20, 32] [0, 1, 2] [0] rfl rfl rfl rfl)
    clear hs hL
    refine TA_step htb (by kernel_rfl) rfl rfl (OpT_nilCheckP rfl rfl rfl rfl) ?_
    refine TA_step htb (by kernel_rfl) rfl rfl (OpT_fieldC rfl rfl rfl rfl fldF79x1) ?_
    refine TA_step htb (by kernel_rfl) rfl rfl (OpT_storeV (cs' := [v3, pp1.1]) rfl rfl rfl rfl tyF70 (i := 0) rfl (is_rows (i := 2) rfl) rfl rfl) ?_
    refine TA_end rfl ?_
    refine Tk_wkS (fr' := [(0, some (vl1)), (4, some (.pointer (some ⟨b1, 0, none⟩))), (5, some (vI i1))]) (own' := [some (cellsR b1 79 [v3, pp1.1]), some (rowS RegionS v3 l1), some (rowsX u8S false pp1.1 pp1.2 (rows1 ++ [List.replicate (Int.toNat (r1.Len.toNat : Int)) (0 : UInt8)]) none)]) (shr' := [Fact.sl RegionS vl1 l]) [0, 4, 5] [0, 1, 2] [0] rfl rfl rfl rfl ?_
    refine Tk_blk (Tk_region (Tops_step rfl (OpT_move rfl rfl rfl rfl) ?_))
    refine Tops_step rfl (OpT_bin rfl rfl rfl rfl rfl (bin_add_i (a := i1) (b := (1 : Int)))) ?_
    refine Tops_step rfl (OpT_assign rfl rfl rfl rfl) ?_
    refine Tops_nil (Tk_wkS (fr' := [(0, some (vl1)), (4, some (.pointer (some ⟨b1, 0, none⟩))), (5, some (vI (wi (i1 + (1 : Int)))))]) (own' := [some (cellsR b1 79 [v3, pp1.1]), some (rowS RegionS v3 l1), some (rowsX u8S false pp1.1 pp1.2 (rows1 ++ [List.replicate (Int.toNat (r1.Len.toNat : Int)) (0 : UInt8)]) none)]) (shr' := [Fact.sl RegionS vl1 l]) [0, 4, 5] [0, 1, 2] [0] rfl rfl rfl rfl ?_)
    exact Tk_backS (l1, rows1 ++ [List.replicate (Int.toNat (r1.Len.toNat : Int)) (0 : UInt8)], wi (i1 + (1 : Int)), v3, pp1.1, pp1.2) h [0, 4, 5] [0, 1, 2] [0] rfl rfl rfl rfl rfl
  ·replace h := br_f hg2 h
   refine Tk_condF (congrArg (fun b => some (Value.bool b)) hg2) ?_
   refine Tk_exit _ rfl ?_
   refine Tk_seq (Tk_region (Tops_step rfl (OpT_move rfl rfl rfl rfl) ?_))
   refine Tops_step rfl (OpT_assign rfl rfl rfl rfl) ?_
   refine Tops_step rfl (OpT_assign rfl rfl rfl rfl) ?_
   refine Tops_nil (Tk_wkS (fr' := [(2, some (.pointer (some ⟨b1, 0, none⟩))), (3, some (vI (0 : Int)))]) (own' := [some (cellsR b1 79 [v3, v4]), some (rowS RegionS v3 l1), some (rowsX u8S false v4 vs1 rows1 none)]) (shr' := []) [2, 3] [0, 1, 2] [] rfl rfl rfl rfl ?_)
   refine Tk_retire (i := 1) rfl ?_
   refine Tk_vs (vs_fold (fl := dumbwaiterref02_Mem.L) (fb := dumbwaiterref02_Mem.B) (dumbwaiterref02_Mem.mk l1 rows1) (i := 0) (j := 2) rfl rfl rfl (q := 0) rfl rfl rfl) ?_
   obtain rfl := Option.some.inj h
   exact Tk_retV rfl rfl (resA (vs := [.pointer (some ⟨b1, 0, none⟩), vI (0 : Int)]) rfl ⟨rfl, rfl, trivial⟩) [0] [] rfl rfl rfl ⟨(.pointer (some ⟨b1, 0, none⟩)), rfl, rfl, rfl⟩

set_option maxRecDepth 100000 in
set_option maxHeartbeats 4000000 in
theorem w_ref_Power01 {np0 : Int} {r : Bool} (h : ref_Power01 np0 = some r) :
  Ctr Try.prog 46 #[vI np0] [] []
   (fun rv own shr => rv = vB r ∧ own = [] ∧ shr = []) := by
 unfold ref_Power01 at h
 refine Ctr.mk (args := [vI np0]) Try.func46 rfl rfl (fun R0 w0 B => ?_)
 refine Tk_seq (Tk_region (Tops_step rfl (OpT_assign rfl rfl rfl rfl) ?_))
 refine Tops_nil (Tk_wkS (fr' := [(0, some (vI np0))]) (own' := []) (shr' := []) [0] [] [] rfl rfl rfl rfl ?_)
 refine Tk_seq (Tk_seq (Tk_region (Tops_step rfl (OpT_assign rfl rfl rfl rfl) ?_)))
 refine Tops_nil (Tk_block (Tk_loopS (σ := Int) [0, 3] [] [] (fun s => ⟨[(0, some (vI np0)), (3, some (vI s))], [], []⟩) (fun nf1 s => ref_Power01L1 np0 nf1 s = some r) fuel (1 : Int) h rfl rfl rfl rfl rfl (fun s h => by cases h) ?_))
 rintro nf1 k1 h
 replace h : ref_Power01L1B np0 (ref_Power01L1 np0 nf1) k1 = some r := h
 unfold ref_Power01L1B at h
 refine Tk_seq (Tk_seq (Tk_region (Tops_step rfl (OpT_move rfl rfl rfl rfl) ?_)))
 refine Tops_step rfl (OpT_bin rfl rfl rfl rfl rfl (bin_leq_i (a := k1) (b := (32768 : Int)))) ?_
 refine Tops_nil (Tk_wkS (fr' := [(0, some (vI np0)), (3, some (vI k1)), (5, some (vB (decide (k1 ≤ (32768 : Int)))))]) (own' := []) (shr' := []) [0, 3, 5] [] [] rfl rfl rfl rfl ?_)
 rcases Bool.eq_false_or_eq_true (decide (k1 ≤ (32768 : Int))) with hg1 | hg1
 ·replace h := br_t hg1 h
  refine Tk_condT (congrArg (fun b => some (Value.bool b)) hg1) ?_
  refine Tk_skip (Tk_seq (Tk_block (Tk_seq (Tk_region (Tops_step rfl (OpT_move rfl rfl rfl rfl) ?_)))))
  refine Tops_step rfl (OpT_move rfl rfl rfl rfl) ?_
  refine Tops_step rfl (OpT_bin rfl rfl rfl rfl rfl (bin_eql_i (a := k1) (b := np0))) ?_
  refine Tops_nil (Tk_wkS (fr' := [(0, some (vI np0)), (3, some (vI k1)), (10, some (vB (k1 == np0)))]) (own' := []) (shr' := []) [0, 3, 10] [] [] rfl rfl rfl rfl ?_)
  rcases Bool.eq_false_or_eq_true (k1 == np0) with hg2 | hg2
  ·replace h := br_t hg2 h
   refine Tk_condT (congrArg (fun b => some (Value.bool b)) hg2) ?_
   refine Tk_seq (Tk_region (Tops_step rfl (OpT_assign rfl rfl rfl rfl) ?_))
   refine Tops_nil (Tk_wkS (fr' := [(2, some (vB true))]) (own' := []) (shr' := []) [2] [] [] rfl rfl rfl rfl ?_)
   obtain rfl := Option.some.inj h
   exact Tk_retV rfl rfl (resA (vs := [vB true]) rfl ⟨rfl, trivial⟩) [] [] rfl rfl rfl ⟨rfl, rfl, rfl⟩
  ·replace h := br_f hg2 h
   refine Tk_condF (congrArg (fun b => some (Value.bool b)) hg2) ?_
   refine Tk_skip (Tk_blk (Tk_region (Tops_step rfl (OpT_move rfl rfl rfl rfl) ?_)))
   refine Tops_step rfl (OpT_bin rfl rfl rfl rfl rfl (bin_mul_i (a := (2 : Int)) (b := k1))) ?_
   refine Tops_step rfl (OpT_assign rfl rfl rfl rfl) ?_
   refine Tops_nil (Tk_wkS (fr' := [(0, some (vI np0)), (3, some (vI (wi ((2 : Int) * k1))))]) (own' := []) (shr' := []) [0, 3] [] [] rfl rfl rfl rfl ?_)
   exact Tk_backS (wi ((2 : Int) * k1)) h [0, 3] [] [] rfl rfl rfl rfl rfl
 ·replace h := br_f hg1 h
  refine Tk_condF (congrArg (fun b => some (Value.bool b)) hg1) ?_
  refine Tk_exit _ rfl ?_
  refine Tk_seq (Tk_region (Tops_step rfl (OpT_assign rfl rfl rfl rfl) ?_))
  refine Tops_nil (Tk_wkS (fr' := [(2, some (vB false))]) (own' := []) (shr' := []) [2] [] [] rfl rfl rfl rfl ?_)
  obtain rfl := Option.some.inj h
  exact Tk_retV rfl rfl (resA (vs := [vB false]) rfl ⟨rfl, trivial⟩) [] [] rfl rfl rfl ⟨rfl, rfl, rfl⟩

set_option maxRecDepth 100000 in
set_option maxHeartbeats 4000000 in
theorem w_ref_size04 {packed : Bool} {np1 : Int} {r : Bool} (h : ref_size04 packed np1 = some r) :
  Ctr Try.prog 37 #[vB packed, vI np1] [] []
   (fun rv own shr => rv = vB r ∧ own = [] ∧ shr = []) := by
 unfold ref_size04 at h
 refine Ctr.mk (args := [vB packed, vI np1]) Try.func37 rfl rfl (fun R0 w0 B => ?_)
 refine Tk_seq (Tk_region (Tops_step rfl (OpT_assign rfl rfl rfl rfl) ?_))
 refine Tops_nil (Tk_wkS (fr' := [(0, some (vB packed)), (1, some (vI np1))]) (own' := []) (shr' := []) [0, 1] [] [] rfl rfl rfl rfl ?_)
 refine Tk_seq (Tk_region (Tops_step rfl (OpT_move rfl rfl rfl rfl) ?_))
 refine Tops_step rfl (OpT_bin rfl rfl rfl rfl rfl (bin_geq_i (a := np1) (b := (1 : Int)))) ?_
 refine Tops_step rfl (OpT_move rfl rfl rfl rfl) ?_
 rcases Bool.eq_false_or_eq_true (decide (np1 ≥ (1 : Int))) with hg1 | hg1
 ·replace h := br_t hg1 h
  refine Tops_yes rfl rfl (congrArg (fun b => some (Value.bool b)) hg1) (OpT_move rfl rfl rfl rfl) ?_
  rintro _ rfl
  refine Tops_yes rfl rfl (congrArg (fun b => some (Value.bool b)) hg1) (OpT_bin rfl rfl rfl rfl rfl (bin_leq_i (a := np1) (b := (32768 : Int)))) ?_
  rintro _ rfl
  refine Tops_step rfl (OpT_pickT rfl rfl rfl (congrArg (fun b => some (Value.bool b)) hg1) rfl) ?_
  refine Tops_step rfl (OpT_move rfl rfl rfl rfl) ?_
  rcases Bool.eq_false_or_eq_true (decide (np1 ≤ (32768 : Int))) with hg2 | hg2
  ·replace h := br_t hg2 h
   refine Tops_yes rfl rfl (congrArg (fun b => some (Value.bool b)) hg2) (OpT_move rfl rfl rfl rfl) ?_
   rintro _ rfl
   refine Tops_yes rfl rfl (congrArg (fun b => some (Value.bool b)) hg2) (OpT_move rfl rfl rfl rfl) ?_
   rintro _ rfl
   rcases Bool.eq_false_or_eq_true (packed) with hg3 | hg3
   ·replace h := br_t hg3 h
    refine Tops_no rfl rfl (congrArg (fun b => some (Value.bool b)) hg3) rfl rfl ?_
    refine Tops_no rfl rfl (congrArg (fun b => some (Value.bool b)) hg3) rfl rfl ?_
    refine Tops_yes rfl rfl (congrArg (fun b => some (Value.bool b)) hg2) (OpT_pickT rfl rfl rfl (congrArg (fun b => some (Value.bool b)) hg3) rfl) ?_
    rintro _ rfl
    refine Tops_step rfl (OpT_pickT rfl rfl rfl (congrArg (fun b => some (Value.bool b)) hg2) rfl) ?_
    refine Tops_step rfl (OpT_assign rfl rfl rfl rfl) ?_
    refine Tops_nil (Tk_wkS (fr' := [(4, some (vB true))]) (own' := []) (shr' := []) [4] [] [] rfl rfl rfl rfl ?_)
    obtain rfl := Option.some.inj h
    exact Tk_retV rfl rfl (resA (vs := [vB true]) rfl ⟨rfl, trivial⟩) [] [] rfl rfl rfl ⟨rfl, rfl, rfl⟩
   ·replace h := br_f hg3 h
    refine Tops_yes rfl rfl (congrArg (fun b => some (Value.bool b)) hg3) (OpT_move rfl rfl rfl rfl) ?_
    rintro _ rfl
    obtain ⟨power1, hx1, h⟩ := ob_e h
    refine Tops_yes rfl rfl (congrArg (fun b => some (Value.bool b)) hg3) (OpT_call (w_ref_Power01 hx1) [] [] rfl rfl rfl rfl rfl callee46 rfl rfl rfl rfl) ?_
    rintro _ ⟨_, _, _, ⟨rfl, rfl, rfl⟩, rfl⟩
    refine Tops_yes rfl rfl (congrArg (fun b => some (Value.bool b)) hg2) (OpT_pickF rfl rfl rfl (congrArg (fun b => some (Value.bool b)) hg3) rfl) ?_
    rintro _ rfl
    refine Tops_step rfl (OpT_pickT rfl rfl rfl (congrArg (fun b => some (Value.bool b)) hg2) rfl) ?_
    refine Tops_step rfl (OpT_assign rfl rfl rfl rfl) ?_
    refine Tops_nil (Tk_wkS (fr' := [(4, some (vB power1))]) (own' := []) (shr' := []) [4] [] [] rfl rfl rfl rfl ?_)
    obtain rfl := Option.some.inj h
    exact Tk_retV rfl rfl (resA (vs := [vB power1]) rfl ⟨rfl, trivial⟩) [] [] rfl rfl rfl ⟨rfl, rfl, rfl⟩
  ·replace h := br_f hg2 h
   refine Tops_no rfl rfl (congrArg (fun b => some (Value.bool b)) hg2) rfl rfl ?_
   refine Tops_no rfl rfl (congrArg (fun b => some (Value.bool b)) hg2) rfl rfl ?_
   refine Tops_noU rfl rfl rfl rfl rfl ?_
   refine Tops_noU rfl rfl rfl rfl rfl ?_
   refine Tops_no rfl rfl (congrArg (fun b => some (Value.bool b)) hg2) rfl rfl ?_
   refine Tops_step rfl (OpT_pickF rfl rfl rfl (congrArg (fun b => some (Value.bool b)) hg2) rfl) ?_
   refine Tops_step rfl (OpT_assign rfl rfl rfl rfl) ?_
   refine Tops_nil (Tk_wkS (fr' := [(4, some (vB false))]) (own' := []) (shr' := []) [4] [] [] rfl rfl rfl rfl ?_)
   obtain rfl := Option.some.inj h
   exact Tk_retV rfl rfl (resA (vs := [vB false]) rfl ⟨rfl, trivial⟩) [] [] rfl rfl rfl ⟨rfl, rfl, rfl⟩
 ·replace h := br_f hg1 h
  refine Tops_no rfl rfl (congrArg (fun b => some (Value.bool b)) hg1) rfl rfl ?_
  refine Tops_no rfl rfl (congrArg (fun b => some (Value.bool b)) hg1) rfl rfl ?_
  refine Tops_step rfl (OpT_pickF rfl rfl rfl (congrArg (fun b => some (Value.bool b)) hg1) rfl) ?_
  refine Tops_step rfl (OpT_move rfl rfl rfl rfl) ?_
  refine Tops_no rfl rfl rfl rfl rfl ?_
  refine Tops_no rfl rfl rfl rfl rfl ?_
  refine Tops_noU rfl rfl rfl rfl rfl ?_
  refine Tops_noU rfl rfl rfl rfl rfl ?_
  refine Tops_no rfl rfl rfl rfl rfl ?_
  refine Tops_step rfl (OpT_pickF rfl rfl rfl rfl rfl) ?_
  refine Tops_step rfl (OpT_assign rfl rfl rfl rfl) ?_
  refine Tops_nil (Tk_wkS (fr' := [(4, some (vB false))]) (own' := []) (shr' := []) [4] [] [] rfl rfl rfl rfl ?_)
  obtain rfl := Option.some.inj h
  exact Tk_retV rfl rfl (resA (vs := [vB false]) rfl ⟨rfl, trivial⟩) [] [] rfl rfl rfl ⟨rfl, rfl, rfl⟩

set_option maxRecDepth 100000 in
set_option maxHeartbeats 4000000 in
theorem w_ref_Parts04 {rp0 : Rings} {r : (UInt64 × UInt64 × UInt64)} (h : ref_Parts04 rp0 = some r) :
  Ctr Try.prog 19 #[.agg #[vB rp0.Packed, vI rp0.Size, vU64 rp0.Desc, vU64 rp0.Driver, vU64 rp0.Device]] [] []
   (fun rv own shr => rv = .tuple #[vU64 r.1, vU64 r.2.1, vU64 r.2.2] ∧ own = [] ∧ shr = []) := by
 unfold ref_Parts04 at h
 refine Ctr.mk (args := [.agg #[vB rp0.Packed, vI rp0.Size, vU64 rp0.Desc, vU64 rp0.Driver, vU64 rp0.Device]]) Try.func19 rfl rfl (fun R0 w0 B => ?_)
 refine Tk_seq (Tk_region (Tops_ex rfl (OpT_box rfl rfl rfl rfl) fun b1 => ?_))
 refine Tops_step rfl (OpT_assign rfl rfl rfl rfl) ?_
 refine Tops_step rfl (OpT_assign rfl rfl rfl rfl) ?_
 refine Tops_step rfl (OpT_assign rfl rfl rfl rfl) ?_
 refine Tops_nil (Tk_wkS (fr' := [(1, some (.pointer (some ⟨b1, 0, none⟩)))]) (own' := [some (cellsR b1 27 [vB rp0.Packed, vI rp0.Size, vU64 rp0.Desc, vU64 rp0.Driver, vU64 rp0.Device])]) (shr' := []) [1] [0] [] rfl rfl rfl rfl ?_)
 refine Tk_seq (Tk_seq (Tk_region (Tops_step rfl (OpT_fieldC rfl rfl rfl rfl fldF27x0) ?_)))
 refine Tops_step rfl (OpT_loadC rfl rfl rfl rfl tyF4 (i := 0) rfl rfl) ?_
 refine Tops_step rfl (OpT_fieldC rfl rfl rfl rfl fldF27x1) ?_
 refine Tops_step rfl (OpT_loadC rfl rfl rfl rfl tyF3 (i := 0) rfl rfl) ?_
 obtain ⟨size1, hx1, h⟩ := ob_e h
 refine Tops_exP rfl (OpT_call (w_ref_size04 hx1) [] [] rfl rfl rfl rfl rfl callee37 rfl rfl rfl rfl) ?_
 rintro _ ⟨_, _, _, ⟨rfl, rfl, rfl⟩, rfl⟩
 refine Tops_step rfl (OpT_not rfl rfl rfl rfl) ?_
 refine Tops_nil (Tk_wkS (fr' := [(1, some (.pointer (some ⟨b1, 0, none⟩))), (11, some (vB (!size1)))]) (own' := [some (cellsR b1 27 [vB rp0.Packed, vI rp0.Size, vU64 rp0.Desc, vU64 rp0.Driver, vU64 rp0.Device])]) (shr' := []) [1, 11] [0] [] rfl rfl rfl rfl ?_)
 rcases Bool.eq_false_or_eq_true ((!size1)) with hg1 | hg1
 ·replace h := br_t hg1 h
  refine Tk_condT (congrArg (fun b => some (Value.bool b)) hg1) ?_
  refine Tk_seq (Tk_region (Tops_step rfl (OpT_assign rfl rfl rfl rfl) ?_))
  refine Tops_step rfl (OpT_assign rfl rfl rfl rfl) ?_
  refine Tops_step rfl (OpT_assign rfl rfl rfl rfl) ?_
  refine Tops_nil (Tk_wkS (fr' := [(2, some (vU64 (0 : UInt64))), (3, some (vU64 (0 : UInt64))), (4, some (vU64 (0 : UInt64)))]) (own' := []) (shr' := []) [2, 3, 4] [] [] rfl rfl rfl rfl ?_)
  obtain rfl := Option.some.inj h
  exact Tk_retV rfl rfl (resA (vs := [vU64 (0 : UInt64), vU64 (0 : UInt64), vU64 (0 : UInt64)]) rfl ⟨rfl, rfl, rfl, trivial⟩) [] [] rfl rfl rfl ⟨rfl, rfl, rfl⟩
 ·replace h := br_f hg1 h
  refine Tk_condF (congrArg (fun b => some (Value.bool b)) hg1) ?_
  refine Tk_skip (Tk_seq (Tk_region (Tops_step rfl (OpT_fieldC rfl rfl rfl rfl fldF27x1) ?_)))
  refine Tops_step rfl (OpT_loadC rfl rfl rfl rfl tyF3 (i := 0) rfl rfl) ?_
  refine Tops_step rfl (OpT_cnv rfl rfl rfl rfl (cnv_i_u64 (n := rp0.Size) Try.underlying3 Try.underlying22)) ?_
  refine Tops_step rfl (OpT_assign rfl rfl rfl rfl) ?_
  refine Tops_nil (Tk_wkS (fr' := [(1, some (.pointer (some ⟨b1, 0, none⟩))), (5, some (vU64 (u64 rp0.Size)))]) (own' := [some (cellsR b1 27 [vB rp0.Packed, vI rp0.Size, vU64 rp0.Desc, vU64 rp0.Driver, vU64 rp0.Device])]) (shr' := []) [1, 5] [0] [] rfl rfl rfl rfl ?_)
  refine Tk_seq (Tk_seq (Tk_region (Tops_step rfl (OpT_fieldC rfl rfl rfl rfl fldF27x0) ?_)))
  refine Tops_step rfl (OpT_loadC rfl rfl rfl rfl tyF4 (i := 0) rfl rfl) ?_
  refine Tops_nil (Tk_wkS (fr' := [(5, some (vU64 (u64 rp0.Size))), (16, some (vB rp0.Packed))]) (own' := []) (shr' := []) [5, 16] [] [] rfl rfl rfl rfl ?_)
  rcases Bool.eq_false_or_eq_true (rp0.Packed) with hg2 | hg2
  ·replace h := br_t hg2 h
   refine Tk_condT (congrArg (fun b => some (Value.bool b)) hg2) ?_
   refine Tk_seq (Tk_region (Tops_step rfl (OpT_move rfl rfl rfl rfl) ?_))
   refine Tops_step rfl (OpT_bin rfl rfl rfl rfl rfl (bin_mul_u64 (a := (16 : UInt64)) (b := u64 rp0.Size))) ?_
   refine Tops_step rfl (OpT_assign rfl rfl rfl rfl) ?_
   refine Tops_step rfl (OpT_assign rfl rfl rfl rfl) ?_
   refine Tops_step rfl (OpT_assign rfl rfl rfl rfl) ?_
   refine Tops_nil (Tk_wkS (fr' := [(2, some (vU64 ((16 : UInt64) * (u64 rp0.Size)))), (3, some (vU64 (4 : UInt64))), (4, some (vU64 (4 : UInt64)))]) (own' := []) (shr' := []) [2, 3, 4] [] [] rfl rfl rfl rfl ?_)
   obtain rfl := Option.some.inj h
   exact Tk_retV rfl rfl (resA (vs := [vU64 ((16 : UInt64) * (u64 rp0.Size)), vU64 (4 : UInt64), vU64 (4 : UInt64)]) rfl ⟨rfl, rfl, rfl, trivial⟩) [] [] rfl rfl rfl ⟨rfl, rfl, rfl⟩
  ·replace h := br_f hg2 h
   refine Tk_condF (congrArg (fun b => some (Value.bool b)) hg2) ?_
   refine Tk_skip (Tk_seq (Tk_region (Tops_step rfl (OpT_move rfl rfl rfl rfl) ?_)))
   refine Tops_step rfl (OpT_bin rfl rfl rfl rfl rfl (bin_mul_u64 (a := (16 : UInt64)) (b := u64 rp0.Size))) ?_
   refine Tops_step rfl (OpT_move rfl rfl rfl rfl) ?_
   refine Tops_step rfl (OpT_bin rfl rfl rfl rfl rfl (bin_mul_u64 (a := (2 : UInt64)) (b := u64 rp0.Size))) ?_
   refine Tops_step rfl (OpT_bin rfl rfl rfl rfl rfl (bin_add_u64 (a := (6 : UInt64)) (b := (2 : UInt64) * (u64 rp0.Size)))) ?_
   refine Tops_step rfl (OpT_move rfl rfl rfl rfl) ?_
   refine Tops_step rfl (OpT_bin rfl rfl rfl rfl rfl (bin_mul_u64 (a := (8 : UInt64)) (b := u64 rp0.Size))) ?_
   refine Tops_step rfl (OpT_bin rfl rfl rfl rfl rfl (bin_add_u64 (a := (6 : UInt64)) (b := (8 : UInt64) * (u64 rp0.Size)))) ?_
   refine Tops_step rfl (OpT_assign rfl rfl rfl rfl) ?_
   refine Tops_step rfl (OpT_assign rfl rfl rfl rfl) ?_
   refine Tops_step rfl (OpT_assign rfl rfl rfl rfl) ?_
   refine Tops_nil (Tk_wkS (fr' := [(2, some (vU64 ((16 : UInt64) * (u64 rp0.Size)))), (3, some (vU64 ((6 : UInt64) + ((2 : UInt64) * (u64 rp0.Size))))), (4, some (vU64 ((6 : UInt64) + ((8 : UInt64) * (u64 rp0.Size)))))]) (own' := []) (shr' := []) [2, 3, 4] [] [] rfl rfl rfl rfl ?_)
   obtain rfl := Option.some.inj h
   exact Tk_retV rfl rfl (resA (vs := [vU64 ((16 : UInt64) * (u64 rp0.Size)), vU64 ((6 : UInt64) + ((2 : UInt64) * (u64 rp0.Size))), vU64 ((6 : UInt64) + ((8 : UInt64) * (u64 rp0.Size)))]) rfl ⟨rfl, rfl, rfl, trivial⟩) [] [] rfl rfl rfl ⟨rfl, rfl, rfl⟩

set_option maxRecDepth 100000 in
set_option maxHeartbeats 4000000 in
theorem w_ref_common04 {ap0 : UInt64} {np1 : UInt64} {b : UInt64} {m : UInt64} {r : Bool} (h : ref_common04 ap0 np1 b m = some r) :
  Ctr Try.prog 38 #[vU64 ap0, vU64 np1, vU64 b, vU64 m] [] []
   (fun rv own shr => rv = vB r ∧ own = [] ∧ shr = []) := by
 unfold ref_common04 at h
 refine Ctr.mk (args := [vU64 ap0, vU64 np1, vU64 b, vU64 m]) Try.func38 rfl rfl (fun R0 w0 B => ?_)
 refine Tk_seq (Tk_region (Tops_step rfl (OpT_assign rfl rfl rfl rfl) ?_))
 refine Tops_nil (Tk_wkS (fr' := [(0, some (vU64 ap0)), (1, some (vU64 np1)), (2, some (vU64 b)), (3, some (vU64 m))]) (own' := []) (shr' := []) [0, 1, 2, 3] [] [] rfl rfl rfl rfl ?_)
 refine Tk_seq (Tk_region (Tops_step rfl (OpT_move rfl rfl rfl rfl) ?_))
 refine Tops_step rfl (OpT_bin rfl rfl rfl rfl rfl (bin_gtr_u64 (a := np1) (b := (0 : UInt64)))) ?_
 refine Tops_step rfl (OpT_move rfl rfl rfl rfl) ?_
 rcases Bool.eq_false_or_eq_true (decide (np1 > (0 : UInt64))) with hg1 | hg1
 ·replace h := br_t hg1 h
  refine Tops_yes rfl rfl (congrArg (fun b => some (Value.bool b)) hg1) (OpT_move rfl rfl rfl rfl) ?_
  rintro _ rfl
  refine Tops_yes rfl rfl (congrArg (fun b => some (Value.bool b)) hg1) (OpT_bin rfl rfl rfl rfl rfl (bin_gtr_u64 (a := m) (b := (0 : UInt64)))) ?_
  rintro _ rfl
  refine Tops_step rfl (OpT_pickT rfl rfl rfl (congrArg (fun b => some (Value.bool b)) hg1) rfl) ?_
  refine Tops_step rfl (OpT_move rfl rfl rfl rfl) ?_
  rcases Bool.eq_false_or_eq_true (decide (m > (0 : UInt64))) with hg2 | hg2
  ·replace h := br_t hg2 h
   refine Tops_yes rfl rfl (congrArg (fun b => some (Value.bool b)) hg2) (OpT_move rfl rfl rfl rfl) ?_
   rintro _ rfl
   refine Tops_yes rfl rfl (congrArg (fun b => some (Value.bool b)) hg2) (OpT_move rfl rfl rfl rfl) ?_
   rintro _ rfl
   refine Tops_yes rfl rfl (congrArg (fun b => some (Value.bool b)) hg2) (OpT_bin rfl rfl rfl rfl rfl (bin_leq_u64 (a := ap0) (b := b))) ?_
   rintro _ rfl
   refine Tops_yes rfl rfl (congrArg (fun b => some (Value.bool b)) hg2) (OpT_move rfl rfl rfl rfl) ?_
   rintro _ rfl
   rcases Bool.eq_false_or_eq_true (decide (ap0 ≤ b)) with hg3 | hg3
   ·replace h := br_t hg3 h
    refine Tops_yes rfl rfl (congrArg (fun b => some (Value.bool b)) hg3) (OpT_move rfl rfl rfl rfl) ?_
    rintro _ rfl
    refine Tops_yes rfl rfl (congrArg (fun b => some (Value.bool b)) hg3) (OpT_move rfl rfl rfl rfl) ?_
    rintro _ rfl
    refine Tops_yes rfl rfl (congrArg (fun b => some (Value.bool b)) hg3) (OpT_bin rfl rfl rfl rfl rfl (bin_sub_u64 (a := b) (b := ap0))) ?_
    rintro _ rfl
    refine Tops_yes rfl rfl (congrArg (fun b => some (Value.bool b)) hg3) (OpT_move rfl rfl rfl rfl) ?_
    rintro _ rfl
    refine Tops_yes rfl rfl (congrArg (fun b => some (Value.bool b)) hg3) (OpT_bin rfl rfl rfl rfl rfl (bin_lss_u64 (a := b - ap0) (b := np1))) ?_
    rintro _ rfl
    refine Tops_yes rfl rfl (congrArg (fun b => some (Value.bool b)) hg2) (OpT_pickT rfl rfl rfl (congrArg (fun b => some (Value.bool b)) hg3) rfl) ?_
    rintro _ rfl
    refine Tops_yes rfl rfl (congrArg (fun b => some (Value.bool b)) hg2) (OpT_move rfl rfl rfl rfl) ?_
    rintro _ rfl
    rcases Bool.eq_false_or_eq_true (decide ((b - ap0) < np1)) with hg4 | hg4
    ·replace h := br_t hg4 h
     refine Tops_no rfl rfl (congrArg (fun b => some (Value.bool b)) hg4) rfl rfl ?_
     refine Tops_no rfl rfl (congrArg (fun b => some (Value.bool b)) hg4) rfl rfl ?_
     refine Tops_no rfl rfl (congrArg (fun b => some (Value.bool b)) hg4) rfl rfl ?_
     refine Tops_no rfl rfl (congrArg (fun b => some (Value.bool b)) hg4) rfl rfl ?_
     refine Tops_noU rfl rfl rfl rfl rfl ?_
     refine Tops_noU rfl rfl rfl rfl rfl ?_
     refine Tops_noU rfl rfl rfl rfl rfl ?_
     refine Tops_noU rfl rfl rfl rfl rfl ?_
     refine Tops_noU rfl rfl rfl rfl rfl ?_
     refine Tops_no rfl rfl (congrArg (fun b => some (Value.bool b)) hg4) rfl rfl ?_
     refine Tops_yes rfl rfl (congrArg (fun b => some (Value.bool b)) hg2) (OpT_pickT rfl rfl rfl (congrArg (fun b => some (Value.bool b)) hg4) rfl) ?_
     rintro _ rfl
     refine Tops_step rfl (OpT_pickT rfl rfl rfl (congrArg (fun b => some (Value.bool b)) hg2) rfl) ?_
     refine Tops_step rfl (OpT_assign rfl rfl rfl rfl) ?_
     refine Tops_nil (Tk_wkS (fr' := [(8, some (vB true))]) (own' := []) (shr' := []) [8] [] [] rfl rfl rfl rfl ?_)
     obtain rfl := Option.some.inj h
     exact Tk_retV rfl rfl (resA (vs := [vB true]) rfl ⟨rfl, trivial⟩) [] [] rfl rfl rfl ⟨rfl, rfl, rfl⟩
    ·replace h := br_f hg4 h
     refine Tops_yes rfl rfl (congrArg (fun b => some (Value.bool b)) hg4) (OpT_move rfl rfl rfl rfl) ?_
     rintro _ rfl
     refine Tops_yes rfl rfl (congrArg (fun b => some (Value.bool b)) hg4) (OpT_move rfl rfl rfl rfl) ?_
     rintro _ rfl
     refine Tops_yes rfl rfl (congrArg (fun b => some (Value.bool b)) hg4) (OpT_bin rfl rfl rfl rfl rfl (bin_lss_u64 (a := b) (b := ap0))) ?_
     rintro _ rfl
     refine Tops_yes rfl rfl (congrArg (fun b => some (Value.bool b)) hg4) (OpT_move rfl rfl rfl rfl) ?_
     rintro _ rfl
     rcases Bool.eq_false_or_eq_true (decide (b < ap0)) with hg5 | hg5
     ·replace h := br_t hg5 h
      refine Tops_yes rfl rfl (congrArg (fun b => some (Value.bool b)) hg5) (OpT_move rfl rfl rfl rfl) ?_
      rintro _ rfl
      refine Tops_yes rfl rfl (congrArg (fun b => some (Value.bool b)) hg5) (OpT_move rfl rfl rfl rfl) ?_
      rintro _ rfl
      refine Tops_yes rfl rfl (congrArg (fun b => some (Value.bool b)) hg5) (OpT_bin rfl rfl rfl rfl rfl (bin_sub_u64 (a := ap0) (b := b))) ?_
      rintro _ rfl
      refine Tops_yes rfl rfl (congrArg (fun b => some (Value.bool b)) hg5) (OpT_move rfl rfl rfl rfl) ?_
      rintro _ rfl
      refine Tops_yes rfl rfl (congrArg (fun b => some (Value.bool b)) hg5) (OpT_bin rfl rfl rfl rfl rfl (bin_lss_u64 (a := ap0 - b) (b := m))) ?_
      rintro _ rfl
      refine Tops_yes rfl rfl (congrArg (fun b => some (Value.bool b)) hg4) (OpT_pickT rfl rfl rfl (congrArg (fun b => some (Value.bool b)) hg5) rfl) ?_
      rintro _ rfl
      refine Tops_yes rfl rfl (congrArg (fun b => some (Value.bool b)) hg2) (OpT_pickF rfl rfl rfl (congrArg (fun b => some (Value.bool b)) hg4) rfl) ?_
      rintro _ rfl
      refine Tops_step rfl (OpT_pickT rfl rfl rfl (congrArg (fun b => some (Value.bool b)) hg2) rfl) ?_
      refine Tops_step rfl (OpT_assign rfl rfl rfl rfl) ?_
      refine Tops_nil (Tk_wkS (fr' := [(8, some (vB (decide ((ap0 - b) < m))))]) (own' := []) (shr' := []) [8] [] [] rfl rfl rfl rfl ?_)
      obtain rfl := Option.some.inj h
      exact Tk_retV rfl rfl (resA (vs := [vB (decide ((ap0 - b) < m))]) rfl ⟨rfl, trivial⟩) [] [] rfl rfl rfl ⟨rfl, rfl, rfl⟩
     ·replace h := br_f hg5 h
      refine Tops_no rfl rfl (congrArg (fun b => some (Value.bool b)) hg5) rfl rfl ?_
      refine Tops_no rfl rfl (congrArg (fun b => some (Value.bool b)) hg5) rfl rfl ?_
      refine Tops_no rfl rfl (congrArg (fun b => some (Value.bool b)) hg5) rfl rfl ?_
      refine Tops_no rfl rfl (congrArg (fun b => some (Value.bool b)) hg5) rfl rfl ?_
      refine Tops_no rfl rfl (congrArg (fun b => some (Value.bool b)) hg5) rfl rfl ?_
      refine Tops_yes rfl rfl (congrArg (fun b => some (Value.bool b)) hg4) (OpT_pickF rfl rfl rfl (congrArg (fun b => some (Value.bool b)) hg5) rfl) ?_
      rintro _ rfl
      refine Tops_yes rfl rfl (congrArg (fun b => some (Value.bool b)) hg2) (OpT_pickF rfl rfl rfl (congrArg (fun b => some (Value.bool b)) hg4) rfl) ?_
      rintro _ rfl
      refine Tops_step rfl (OpT_pickT rfl rfl rfl (congrArg (fun b => some (Value.bool b)) hg2) rfl) ?_
      refine Tops_step rfl (OpT_assign rfl rfl rfl rfl) ?_
      refine Tops_nil (Tk_wkS (fr' := [(8, some (vB false))]) (own' := []) (shr' := []) [8] [] [] rfl rfl rfl rfl ?_)
      obtain rfl := Option.some.inj h
      exact Tk_retV rfl rfl (resA (vs := [vB false]) rfl ⟨rfl, trivial⟩) [] [] rfl rfl rfl ⟨rfl, rfl, rfl⟩
   ·replace h := br_f hg3 h
    refine Tops_no rfl rfl (congrArg (fun b => some (Value.bool b)) hg3) rfl rfl ?_
    refine Tops_no rfl rfl (congrArg (fun b => some (Value.bool b)) hg3) rfl rfl ?_
    refine Tops_no rfl rfl (congrArg (fun b => some (Value.bool b)) hg3) rfl rfl ?_
    refine Tops_no rfl rfl (congrArg (fun b => some (Value.bool b)) hg3) rfl rfl ?_
    refine Tops_no rfl rfl (congrArg (fun b => some (Value.bool b)) hg3) rfl rfl ?_
    refine Tops_yes rfl rfl (congrArg (fun b => some (Value.bool b)) hg2) (OpT_pickF rfl rfl rfl (congrArg (fun b => some (Value.bool b)) hg3) rfl) ?_
    rintro _ rfl
    refine Tops_yes rfl rfl (congrArg (fun b => some (Value.bool b)) hg2) (OpT_move rfl rfl rfl rfl) ?_
    rintro _ rfl
    refine Tops_yes rfl rfl rfl (OpT_move rfl rfl rfl rfl) ?_
    rintro _ rfl
    refine Tops_yes rfl rfl rfl (OpT_move rfl rfl rfl rfl) ?_
    rintro _ rfl
    refine Tops_yes rfl rfl rfl (OpT_bin rfl rfl rfl rfl rfl (bin_lss_u64 (a := b) (b := ap0))) ?_
    rintro _ rfl
    refine Tops_yes rfl rfl rfl (OpT_move rfl rfl rfl rfl) ?_
    rintro _ rfl
    rcases Bool.eq_false_or_eq_true (decide (b < ap0)) with hg6 | hg6
    ·replace h := br_t hg6 h
     refine Tops_yes rfl rfl (congrArg (fun b => some (Value.bool b)) hg6) (OpT_move rfl rfl rfl rfl) ?_
     rintro _ rfl
     refine Tops_yes rfl rfl (congrArg (fun b => some (Value.bool b)) hg6) (OpT_move rfl rfl rfl rfl) ?_
     rintro _ rfl
     refine Tops_yes rfl rfl (congrArg (fun b => some (Value.bool b)) hg6) (OpT_bin rfl rfl rfl rfl rfl (bin_sub_u64 (a := ap0) (b := b))) ?_
     rintro _ rfl
     refine Tops_yes rfl rfl (congrArg (fun b => some (Value.bool b)) hg6) (OpT_move rfl rfl rfl rfl) ?_
     rintro _ rfl
     refine Tops_yes rfl rfl (congrArg (fun b => some (Value.bool b)) hg6) (OpT_bin rfl rfl rfl rfl rfl (bin_lss_u64 (a := ap0 - b) (b := m))) ?_
     rintro _ rfl
     refine Tops_yes rfl rfl rfl (OpT_pickT rfl rfl rfl (congrArg (fun b => some (Value.bool b)) hg6) rfl) ?_
     rintro _ rfl
     refine Tops_yes rfl rfl (congrArg (fun b => some (Value.bool b)) hg2) (OpT_pickF rfl rfl rfl rfl rfl) ?_
     rintro _ rfl
     refine Tops_step rfl (OpT_pickT rfl rfl rfl (congrArg (fun b => some (Value.bool b)) hg2) rfl) ?_
     refine Tops_step rfl (OpT_assign rfl rfl rfl rfl) ?_
     refine Tops_nil (Tk_wkS (fr' := [(8, some (vB (decide ((ap0 - b) < m))))]) (own' := []) (shr' := []) [8] [] [] rfl rfl rfl rfl ?_)
     obtain rfl := Option.some.inj h
     exact Tk_retV rfl rfl (resA (vs := [vB (decide ((ap0 - b) < m))]) rfl ⟨rfl, trivial⟩) [] [] rfl rfl rfl ⟨rfl, rfl, rfl⟩
    ·replace h := br_f hg6 h
     refine Tops_no rfl rfl (congrArg (fun b => some (Value.bool b)) hg6) rfl rfl ?_
     refine Tops_no rfl rfl (congrArg (fun b => some (Value.bool b)) hg6) rfl rfl ?_
     refine Tops_no rfl rfl (congrArg (fun b => some (Value.bool b)) hg6) rfl rfl ?_
     refine Tops_no rfl rfl (congrArg (fun b => some (Value.bool b)) hg6) rfl rfl ?_
     refine Tops_no rfl rfl (congrArg (fun b => some (Value.bool b)) hg6) rfl rfl ?_
     refine Tops_yes rfl rfl rfl (OpT_pickF rfl rfl rfl (congrArg (fun b => some (Value.bool b)) hg6) rfl) ?_
     rintro _ rfl
     refine Tops_yes rfl rfl (congrArg (fun b => some (Value.bool b)) hg2) (OpT_pickF rfl rfl rfl rfl rfl) ?_
     rintro _ rfl
     refine Tops_step rfl (OpT_pickT rfl rfl rfl (congrArg (fun b => some (Value.bool b)) hg2) rfl) ?_
     refine Tops_step rfl (OpT_assign rfl rfl rfl rfl) ?_
     refine Tops_nil (Tk_wkS (fr' := [(8, some (vB false))]) (own' := []) (shr' := []) [8] [] [] rfl rfl rfl rfl ?_)
     obtain rfl := Option.some.inj h
     exact Tk_retV rfl rfl (resA (vs := [vB false]) rfl ⟨rfl, trivial⟩) [] [] rfl rfl rfl ⟨rfl, rfl, rfl⟩
  ·replace h := br_f hg2 h
   refine Tops_no rfl rfl (congrArg (fun b => some (Value.bool b)) hg2) rfl rfl ?_
   refine Tops_no rfl rfl (congrArg (fun b => some (Value.bool b)) hg2) rfl rfl ?_
   refine Tops_no rfl rfl (congrArg (fun b => some (Value.bool b)) hg2) rfl rfl ?_
   refine Tops_no rfl rfl (congrArg (fun b => some (Value.bool b)) hg2) rfl rfl ?_
   refine Tops_noU rfl rfl rfl rfl rfl ?_
   refine Tops_noU rfl rfl rfl rfl rfl ?_
   refine Tops_noU rfl rfl rfl rfl rfl ?_
   refine Tops_noU rfl rfl rfl rfl rfl ?_
   refine Tops_noU rfl rfl rfl rfl rfl ?_
   refine Tops_no rfl rfl (congrArg (fun b => some (Value.bool b)) hg2) rfl rfl ?_
   refine Tops_no rfl rfl (congrArg (fun b => some (Value.bool b)) hg2) rfl rfl ?_
   refine Tops_noU rfl rfl rfl rfl rfl ?_
   refine Tops_noU rfl rfl rfl rfl rfl ?_
   refine Tops_noU rfl rfl rfl rfl rfl ?_
   refine Tops_noU rfl rfl rfl rfl rfl ?_
   refine Tops_noU rfl rfl rfl rfl rfl ?_
   refine Tops_noU rfl rfl rfl rfl rfl ?_
   refine Tops_noU rfl rfl rfl rfl rfl ?_
   refine Tops_noU rfl rfl rfl rfl rfl ?_
   refine Tops_noU rfl rfl rfl rfl rfl ?_
   refine Tops_noU rfl rfl rfl rfl rfl ?_
   refine Tops_no rfl rfl (congrArg (fun b => some (Value.bool b)) hg2) rfl rfl ?_
   refine Tops_step rfl (OpT_pickF rfl rfl rfl (congrArg (fun b => some (Value.bool b)) hg2) rfl) ?_
   refine Tops_step rfl (OpT_assign rfl rfl rfl rfl) ?_
   refine Tops_nil (Tk_wkS (fr' := [(8, some (vB false))]) (own' := []) (shr' := []) [8] [] [] rfl rfl rfl rfl ?_)
   obtain rfl := Option.some.inj h
   exact Tk_retV rfl rfl (resA (vs := [vB false]) rfl ⟨rfl, trivial⟩) [] [] rfl rfl rfl ⟨rfl, rfl, rfl⟩
 ·replace h := br_f hg1 h
  refine Tops_no rfl rfl (congrArg (fun b => some (Value.bool b)) hg1) rfl rfl ?_
  refine Tops_no rfl rfl (congrArg (fun b => some (Value.bool b)) hg1) rfl rfl ?_
  refine Tops_step rfl (OpT_pickF rfl rfl rfl (congrArg (fun b => some (Value.bool b)) hg1) rfl) ?_
  refine Tops_step rfl (OpT_move rfl rfl rfl rfl) ?_
  refine Tops_no rfl rfl rfl rfl rfl ?_
  refine Tops_no rfl rfl rfl rfl rfl ?_
  refine Tops_no rfl rfl rfl rfl rfl ?_
  refine Tops_no rfl rfl rfl rfl rfl ?_
  refine Tops_noU rfl rfl rfl rfl rfl ?_
  refine Tops_noU rfl rfl rfl rfl rfl ?_
  refine Tops_noU rfl rfl rfl rfl rfl ?_
  refine Tops_noU rfl rfl rfl rfl rfl ?_
  refine Tops_noU rfl rfl rfl rfl rfl ?_
  refine Tops_no rfl rfl rfl rfl rfl ?_
  refine Tops_no rfl rfl rfl rfl rfl ?_
  refine Tops_noU rfl rfl rfl rfl rfl ?_
  refine Tops_noU rfl rfl rfl rfl rfl ?_
  refine Tops_noU rfl rfl rfl rfl rfl ?_
  refine Tops_noU rfl rfl rfl rfl rfl ?_
  refine Tops_noU rfl rfl rfl rfl rfl ?_
  refine Tops_noU rfl rfl rfl rfl rfl ?_
  refine Tops_noU rfl rfl rfl rfl rfl ?_
  refine Tops_noU rfl rfl rfl rfl rfl ?_
  refine Tops_noU rfl rfl rfl rfl rfl ?_
  refine Tops_noU rfl rfl rfl rfl rfl ?_
  refine Tops_no rfl rfl rfl rfl rfl ?_
  refine Tops_step rfl (OpT_pickF rfl rfl rfl rfl rfl) ?_
  refine Tops_step rfl (OpT_assign rfl rfl rfl rfl) ?_
  refine Tops_nil (Tk_wkS (fr' := [(8, some (vB false))]) (own' := []) (shr' := []) [8] [] [] rfl rfl rfl rfl ?_)
  obtain rfl := Option.some.inj h
  exact Tk_retV rfl rfl (resA (vs := [vB false]) rfl ⟨rfl, trivial⟩) [] [] rfl rfl rfl ⟨rfl, rfl, rfl⟩

set_option maxRecDepth 100000 in
set_option maxHeartbeats 4000000 in
theorem w_ref_Check04 {rp0 : Rings} {r : Int} (h : ref_Check04 rp0 = some r) :
  Ctr Try.prog 20 #[.agg #[vB rp0.Packed, vI rp0.Size, vU64 rp0.Desc, vU64 rp0.Driver, vU64 rp0.Device]] [] []
   (fun rv own shr => rv = vI r ∧ own = [] ∧ shr = []) := by
 unfold ref_Check04 at h
 refine Ctr.mk (args := [.agg #[vB rp0.Packed, vI rp0.Size, vU64 rp0.Desc, vU64 rp0.Driver, vU64 rp0.Device]]) Try.func20 rfl rfl (fun R0 w0 B => ?_)
 refine Tk_seq (Tk_region (Tops_ex rfl (OpT_box rfl rfl rfl rfl) fun b1 => ?_))
 refine Tops_step rfl (OpT_assign rfl rfl rfl rfl) ?_
 refine Tops_nil (Tk_wkS (fr' := [(1, some (.pointer (some ⟨b1, 0, none⟩)))]) (own' := [some (cellsR b1 27 [vB rp0.Packed, vI rp0.Size, vU64 rp0.Desc, vU64 rp0.Driver, vU64 rp0.Device])]) (shr' := []) [1] [0] [] rfl rfl rfl rfl ?_)
 refine Tk_seq (Tk_region (Tops_step rfl (OpT_loadCA (vs := [vB rp0.Packed, vI rp0.Size, vU64 rp0.Desc, vU64 rp0.Driver, vU64 rp0.Device]) rfl rfl rfl rfl tyF27 (i := 0) rfl rfl rfl) ?_))
 obtain ⟨parts1, hx1, h⟩ := ob_e h
 refine Tops_exP rfl (OpT_call (w_ref_Parts04 hx1) [] [] rfl rfl rfl rfl rfl callee19 rfl rfl rfl rfl) ?_
 rintro _ ⟨_, _, _, ⟨rfl, rfl, rfl⟩, rfl⟩
 refine Tops_step rfl (OpT_move rfl rfl rfl rfl) ?_
 refine Tops_step rfl (OpT_extract rfl rfl rfl rfl rfl) ?_
 refine Tops_step rfl (OpT_extract rfl rfl rfl rfl rfl) ?_
 refine Tops_step rfl (OpT_extract rfl rfl rfl rfl rfl) ?_
 refine Tops_step rfl (OpT_assign rfl rfl rfl rfl) ?_
 refine Tops_step rfl (OpT_assign rfl rfl rfl rfl) ?_
 refine Tops_step rfl (OpT_assign rfl rfl rfl rfl) ?_
 refine Tops_nil (Tk_wkS (fr' := [(1, some (.pointer (some ⟨b1, 0, none⟩))), (3, some (vU64 parts1.1)), (4, some (vU64 parts1.2.1)), (5, some (vU64 parts1.2.2))]) (own' := [some (cellsR b1 27 [vB rp0.Packed, vI rp0.Size, vU64 rp0.Desc, vU64 rp0.Driver, vU64 rp0.Device])]) (shr' := []) [1, 3, 4, 5] [0] [] rfl rfl rfl rfl ?_)
 refine Tk_seq (Tk_seq (Tk_region (Tops_step rfl (OpT_move rfl rfl rfl rfl) ?_)))
 refine Tops_step rfl (OpT_bin rfl rfl rfl rfl rfl (bin_eql_u64 (a := parts1.1) (b := (0 : UInt64)))) ?_
 refine Tops_nil (Tk_wkS (fr' := [(1, some (.pointer (some ⟨b1, 0, none⟩))), (3, some (vU64 parts1.1)), (4, some (vU64 parts1.2.1)), (5, some (vU64 parts1.2.2)), (18, some (vB (parts1.1 == (0 : UInt64))))]) (own' := [some (cellsR b1 27 [vB rp0.Packed, vI rp0.Size, vU64 rp0.Desc, vU64 rp0.Driver, vU64 rp0.Device])]) (shr' := []) [1, 3, 4, 5, 18] [0] [] rfl rfl rfl rfl ?_)
 rcases Bool.eq_false_or_eq_true (parts1.1 == (0 : UInt64)) with hg1 | hg1
 ·replace h := br_t hg1 h
  refine Tk_condT (congrArg (fun b => some (Value.bool b)) hg1) ?_
  refine Tk_seq (Tk_region (Tops_step rfl (OpT_assign rfl rfl rfl rfl) ?_))
  refine Tops_nil (Tk_wkS (fr' := [(2, some (vI (2 : Int)))]) (own' := []) (shr' := []) [2] [] [] rfl rfl rfl rfl ?_)
  obtain rfl := Option.some.inj h
  exact Tk_retV rfl rfl (resA (vs := [vI (2 : Int)]) rfl ⟨rfl, trivial⟩) [] [] rfl rfl rfl ⟨rfl, rfl, rfl⟩
 ·replace h := br_f hg1 h
  refine Tk_condF (congrArg (fun b => some (Value.bool b)) hg1) ?_
  refine Tk_skip (Tk_seq (Tk_region (Tops_step rfl (OpT_fieldC rfl rfl rfl rfl fldF27x2) ?_)))
  refine Tops_step rfl (OpT_loadC rfl rfl rfl rfl tyF22 (i := 0) rfl rfl) ?_
  refine Tops_step rfl (OpT_fieldC rfl rfl rfl rfl fldF27x3) ?_
  refine Tops_step rfl (OpT_loadC rfl rfl rfl rfl tyF22 (i := 0) rfl rfl) ?_
  refine Tops_step rfl (OpT_fieldC rfl rfl rfl rfl fldF27x4) ?_
  refine Tops_step rfl (OpT_loadC rfl rfl rfl rfl tyF22 (i := 0) rfl rfl) ?_
  refine Tops_ex rfl (OpT_buildSlice (S := u64S) (xs := [rp0.Desc, rp0.Driver, rp0.Device]) (css := [[vU64 rp0.Desc], [vU64 rp0.Driver], [vU64 rp0.Device]]) (cs := [vU64 rp0.Desc, vU64 rp0.Driver, vU64 rp0.Device]) (e := 22) rfl rfl rfl rfl (bldF slF77 (by decide) (by kernel_rfl)) rfl rfl rfl rfl (rel_plainD (S := u64S) (xs := [rp0.Desc, rp0.Driver, rp0.Device]) (css := [[vU64 rp0.Desc], [vU64 rp0.Driver], [vU64 rp0.Device]]) rfl rfl)) fun v1 => ?_
  refine Tops_step rfl (OpT_move rfl rfl rfl rfl) ?_
  refine Tops_step rfl (OpT_move rfl rfl rfl rfl) ?_
  refine Tops_step rfl (OpT_move rfl rfl rfl rfl) ?_
  refine Tops_ex rfl (OpT_buildSlice (S := u64S) (xs := [parts1.1, parts1.2.1, parts1.2.2]) (css := [[vU64 parts1.1], [vU64 parts1.2.1], [vU64 parts1.2.2]]) (cs := [vU64 parts1.1, vU64 parts1.2.1, vU64 parts1.2.2]) (e := 22) rfl rfl rfl rfl (bldF slF77 (by decide) (by kernel_rfl)) rfl rfl rfl rfl (rel_plainD (S := u64S) (xs := [parts1.1, parts1.2.1, parts1.2.2]) (css := [[vU64 parts1.1], [vU64 parts1.2.1], [vU64 parts1.2.2]]) rfl rfl)) fun v2 => ?_
  refine Tops_step rfl (OpT_assign rfl rfl rfl rfl) ?_
  refine Tops_step rfl (OpT_assign rfl rfl rfl rfl) ?_
  refine Tops_nil (Tk_wkS (fr' := [(1, some (.pointer (some ⟨b1, 0, none⟩))), (6, some (v1)), (7, some (v2))]) (own' := [some (cellsR b1 27 [vB rp0.Packed, vI rp0.Size, vU64 rp0.Desc, vU64 rp0.Driver, vU64 rp0.Device]), some (rowS u64S v1 [rp0.Desc, rp0.Driver, rp0.Device]), some (rowS u64S v2 [parts1.1, parts1.2.1, parts1.2.2])]) (shr' := []) [1, 6, 7] [0, 1, 2] [] rfl rfl rfl rfl ?_)
  refine Tk_seq (Tk_region (Tops_ex rfl (OpT_buildSlice (S := u64S) (xs := [(16 : UInt64), (2 : UInt64), (4 : UInt64)]) (css := [[vU64 (16 : UInt64)], [vU64 (2 : UInt64)], [vU64 (4 : UInt64)]]) (cs := [vU64 (16 : UInt64), vU64 (2 : UInt64), vU64 (4 : UInt64)]) (e := 22) rfl rfl rfl rfl (bldF slF77 (by decide) (by kernel_rfl)) rfl rfl rfl rfl (rel_plainD (S := u64S) (xs := [(16 : UInt64), (2 : UInt64), (4 : UInt64)]) (css := [[vU64 (16 : UInt64)], [vU64 (2 : UInt64)], [vU64 (4 : UInt64)]]) rfl rfl)) fun v3 => ?_))
  refine Tops_step rfl (OpT_assign rfl rfl rfl rfl) ?_
  refine Tops_nil (Tk_wkS (fr' := [(1, some (.pointer (some ⟨b1, 0, none⟩))), (6, some (v1)), (7, some (v2)), (8, some (v3))]) (own' := [some (cellsR b1 27 [vB rp0.Packed, vI rp0.Size, vU64 rp0.Desc, vU64 rp0.Driver, vU64 rp0.Device]), some (rowS u64S v1 [rp0.Desc, rp0.Driver, rp0.Device]), some (rowS u64S v2 [parts1.1, parts1.2.1, parts1.2.2]), some (rowS u64S v3 [(16 : UInt64), (2 : UInt64), (4 : UInt64)])]) (shr' := []) [1, 6, 7, 8] [0, 1, 2, 3] [] rfl rfl rfl rfl ?_)
  refine Tk_seq (Tk_seq (Tk_region (Tops_step rfl (OpT_fieldC rfl rfl rfl rfl fldF27x0) ?_)))
  refine Tops_step rfl (OpT_loadC rfl rfl rfl rfl tyF4 (i := 0) rfl rfl) ?_
  refine Tops_nil (Tk_wkS (fr' := [(6, some (v1)), (7, some (v2)), (8, some (v3)), (32, some (vB rp0.Packed))]) (own' := [some (rowS u64S v1 [rp0.Desc, rp0.Driver, rp0.Device]), some (rowS u64S v2 [parts1.1, parts1.2.1, parts1.2.2]), some (rowS u64S v3 [(16 : UInt64), (2 : UInt64), (4 : UInt64)])]) (shr' := []) [6, 7, 8, 32] [1, 2, 3] [] rfl rfl rfl rfl ?_)
  refine Tk_join (α := (List UInt64) × (List UInt64) × (List UInt64) × Value × Value × Value) (fun s => ⟨[(6, some (s.2.2.2.1)), (7, some (s.2.2.2.2.1)), (8, some (s.2.2.2.2.2))], [some (rowS u64S s.2.2.2.1 s.1), some (rowS u64S s.2.2.2.2.1 s.2.1), some (rowS u64S s.2.2.2.2.2 s.2.2.1)], []⟩) (fun s => ref_Check04J1 s.1 s.2.1 s.2.2.1 = some r) ?_ ?_
  ·rintro ⟨l1, l2, l3, v4, v5, v6⟩ h
   replace h : ref_Check04J1 l1 l2 l3 = some r := h
   unfold ref_Check04J1 at h
   refine Tk_seq (Tk_seq (Tk_region (Tops_step rfl (OpT_assign rfl rfl rfl rfl) ?_)))
   refine Tops_nil (Tk_block (Tk_loopS (σ := Int) [6, 7, 8, 9] [0, 1, 2] [] (fun s => ⟨[(6, some (v4)), (7, some (v5)), (8, some (v6)), (9, some (vI s))], [some (rowS u64S v4 l1), some (rowS u64S v5 l2), some (rowS u64S v6 l3)], []⟩) (fun nf2 s => ref_Check04L2 l1 l2 l3 nf2 s = some r) fuel (0 : Int) h rfl rfl rfl rfl rfl (fun s h => by cases h) ?_))
   rintro nf2 i1 h
   replace h : ref_Check04L2B l1 l2 l3 (ref_Check04L2 l1 l2 l3 nf2) i1 = some r := h
   unfold ref_Check04L2B at h
   refine Tk_seq (Tk_seq (Tk_region (Tops_step rfl (OpT_move rfl rfl rfl rfl) ?_)))
   refine Tops_step rfl (OpT_bin rfl rfl rfl rfl rfl (bin_lss_i (a := i1) (b := (3 : Int)))) ?_
   refine Tops_nil (Tk_wkS (fr' := [(6, some (v4)), (7, some (v5)), (8, some (v6)), (9, some (vI i1)), (36, some (vB (decide (i1 < (3 : Int)))))]) (own' := [some (rowS u64S v4 l1), some (rowS u64S v5 l2), some (rowS u64S v6 l3)]) (shr' := []) [6, 7, 8, 9, 36] [0, 1, 2] [] rfl rfl rfl rfl ?_)
   rcases Bool.eq_false_or_eq_true (decide (i1 < (3 : Int))) with hg2 | hg2
   ·replace h := br_t hg2 h
    refine Tk_condT (congrArg (fun b => some (Value.bool b)) hg2) ?_
    refine Tk_skip (Tk_seq (Tk_block (Tk_seq (Tk_seq (Tk_drawT (by kernel_rfl) ?_)))))
    refine TA_tb [0, 0, 3, 7, 0, 0, 48, 112, 255, 511, 1023, 2047, 2047, 8191, 16383, 2047, 2047, 100351, 231423, 493567, 1048575, 2047, 2047, 6293503, 14682111, 33554431, 67108863] (by kernel_rfl) fun htb => ?_
    refine TA_wkS (fr' := [(6, some (v4)), (7, some (v5)), (8, some (v6)), (9, some (vI i1))]) (own' := [some (rowS u64S v4 l1), some (rowS u64S v5 l2), some (rowS u64S v6 l3)]) (shr' := []) [6, 7, 8, 9] [0, 1, 2] [] rfl rfl rfl rfl ?_
    obtain ⟨y1, hx2, h⟩ := ob_e h
    obtain ⟨y2, hx3, h⟩ := ob_e h
    refine TA_seg (lo := 0) (hi := 8) htb rfl rfl (by kernel_rfl) (fun c L a w => Sat c ⟨[(6, some (v4)), (7, some (v5)), (8, some (v6)), (9, some (vI i1)), (39, bif L 0 then some (v4) else none), (40, bif L 1 then some (vI i1) else none), (41, bif L 2 then some (rowPtr v4 (Int.toNat i1 * 1)) else none), (42, bif L 3 then some (vU64 y1) else none), (43, bif L 4 then some (v6) else none), (44, bif L 5 then some (vI i1) else none), (45, bif L 6 then some (rowPtr v6 (Int.toNat i1 * 1)) else none), (46, bif L 7 then some (vU64 y2) else none)], [(some (rowS u64S v4 l1) : Option Res), (some (rowS u64S v5 l2) : Option Res), (some (rowS u64S v6 l3) : Option Res)], []⟩ a w) [([], [2, 3]), ([], [2, 3]), ([0, 1], [3]), ([0, 1, 2], []), ([], [6, 7]), ([], [6, 7]), ([4, 5], [7]), ([4, 5, 6], [])] rfl (by kernel_rfl) ?_ (steps_cons ?_ (steps_cons ?_ (steps_cons ?_ (steps_cons ?_ (steps_cons ?_ (steps_cons ?_ (steps_cons ?_ (steps_cons ?_ (steps_nil))))))))) ?_
    ·intro a w hs
     exact hs.startF [39, 40, 41, 42, 43, 44, 45, 46] [0, 1, 2] [] rfl rfl rfl rfl
    ·intro L a w hv K Q hK
     have hs := hv
     refine wpOp_go rfl rfl hs (OpT_move rfl rfl rfl rfl) ?_
     rintro _ rfl a' w' hs'
     exact hK a' w' (hs'.putF (i := 4) rfl [0, 1, 2] [] rfl rfl rfl rfl)
    ·intro L a w hv K Q hK
     have hs := hv
     refine wpOp_go rfl rfl hs (OpT_move rfl rfl rfl rfl) ?_
     rintro _ rfl a' w' hs'
     exact hK a' w' (hs'.putF (i := 5) rfl [0, 1, 2] [] rfl rfl rfl rfl)
    ·intro L a w hv K Q hK
     have hs := hv
     refine wpOp_go rfl rfl hs (OpT_idxO rfl rfl rfl rfl rfl slF77 (i := 0) rfl hx2) ?_
     rintro _ rfl a' w' hs'
     exact hK a' w' (hs'.putF (i := 6) rfl [0, 1, 2] [] rfl rfl rfl rfl)
    ·intro L a w hv K Q hK
     have hs := hv
     refine wpOp_go rfl rfl hs (OpT_loadO (S := u64S) rfl rfl rfl rfl rfl tyF22 (i := 0) rfl hx2 rfl rfl) ?_
     rintro _ rfl a' w' hs'
     exact hK a' w' (hs'.putF (i := 7) rfl [0, 1, 2] [] rfl rfl rfl rfl)
    ·intro L a w hv K Q hK
     have hs := hv
     refine wpOp_go rfl rfl hs (OpT_move rfl rfl rfl rfl) ?_
     rintro _ rfl a' w' hs'
     exact hK a' w' (hs'.putF (i := 8) rfl [0, 1, 2] [] rfl rfl rfl rfl)
    ·intro L a w hv K Q hK
     have hs := hv
     refine wpOp_go rfl rfl hs (OpT_move rfl rfl rfl rfl) ?_
     rintro _ rfl a' w' hs'
     exact hK a' w' (hs'.putF (i := 9) rfl [0, 1, 2] [] rfl rfl rfl rfl)
    ·intro L a w hv K Q hK
     have hs := hv
     refine wpOp_go rfl rfl hs (OpT_idxO rfl rfl rfl rfl rfl slF77 (i := 2) rfl hx3) ?_
     rintro _ rfl a' w' hs'
     exact hK a' w' (hs'.putF (i := 10) rfl [0, 1, 2] [] rfl rfl rfl rfl)
    ·intro L a w hv K Q hK
     have hs := hv
     refine wpOp_go rfl rfl hs (OpT_loadO (S := u64S) rfl rfl rfl rfl rfl tyF22 (i := 2) rfl hx3 rfl rfl) ?_
     rintro _ rfl a' w' hs'
     exact hK a' w' (hs'.putF (i := 11) rfl [0, 1, 2] [] rfl rfl rfl rfl)
    ·intro L a w hL hv
     rw [allTrue hL] at hv
     have hs := hv
     refine (show TA _ _ _ 8 ⟨[(6, some (v4)), (7, some (v5)), (8, some (v6)), (9, some (vI i1)), (42, some (vU64 y1)), (46, some (vU64 y2))], [some (rowS u64S v4 l1), some (rowS u64S v5 l2), some (rowS u64S v6 l3)], []⟩ from ?_) a w (hs.wkS [6, 7, 8, 9, 42, 46] [0, 1, 2] [] rfl rfl rfl rfl)
     clear hs hL
     obtain ⟨hc1, h⟩ := chk_e h
     refine TA_step htb (by kernel_rfl) rfl rfl (OpT_bin rfl rfl rfl rfl rfl (bin_rem_u64 (a := y1) (b := y2) (not_t hc1))) ?_
     refine TA_step htb (by kernel_rfl) rfl rfl (OpT_bin rfl rfl rfl rfl rfl (bin_neq_u64 (a := y1 % y2) (b := (0 : UInt64)))) ?_
     refine TA_step htb (by kernel_rfl) rfl rfl (OpT_move rfl rfl rfl rfl) ?_
     refine TA_wkS (fr' := [(6, some (v4)), (7, some (v5)), (8, some (v6)), (9, some (vI i1)), (49, some (vB ((y1 % y2) != (0 : UInt64))))]) (own' := [some (rowS u64S v4 l1), some (rowS u64S v5 l2), some (rowS u64S v6 l3)]) (shr' := []) [6, 7, 8, 9, 49] [0, 1, 2] [] rfl rfl rfl rfl ?_
     rcases Bool.eq_false_or_eq_true ((y1 % y2) != (0 : UInt64)) with hg3 | hg3
     ·replace h := br_t hg3 h
      refine TA_seg (lo := 11) (hi := 25) htb rfl rfl (by kernel_rfl) (fun c L a w => Sat c ⟨[(6, some (v4)), (7, some (v5)), (8, some (v6)), (9, some (vI i1)), (49, some (vB ((y1 % y2) != (0 : UInt64)))), (50, bif L 11 then some (undef) else none), (51, bif L 12 then some (undef) else none), (52, bif L 13 then some (undef) else none), (53, bif L 14 then some (undef) else none), (54, bif L 15 then some (undef) else none), (55, bif L 16 then some (undef) else none), (56, bif L 17 then some (undef) else none), (57, bif L 18 then some (undef) else none), (58, bif L 19 then some (undef) else none), (59, bif L 20 then some (undef) else none), (60, bif L 21 then some (undef) else none), (61, bif L 22 then some (undef) else none), (62, bif L 23 then some (undef) else none), (63, bif L 24 then some (undef) else none)], [(some (rowS u64S v4 l1) : Option Res), (some (rowS u64S v5 l2) : Option Res), (some (rowS u64S v6 l3) : Option Res)], []⟩ a w) [([], [13, 14, 20]), ([], [13, 14, 20]), ([11, 12], [14, 20]), ([11, 12, 13], [20]), ([], [17, 18, 19, 20]), ([], [17, 18, 19, 20]), ([15, 16], [18, 19, 20]), ([15, 16, 17], [19, 20]), ([15, 16, 17, 18], [20]), ([11, 12, 13, 14, 15, 16, 17, 18, 19], []), ([], [23, 24]), ([], [23, 24]), ([21, 22], [24]), ([21, 22, 23], [])] rfl (by kernel_rfl) ?_ (steps_cons ?_ (steps_cons ?_ (steps_cons ?_ (steps_cons ?_ (steps_cons ?_ (steps_cons ?_ (steps_cons ?_ (steps_cons ?_ (steps_cons ?_ (steps_cons ?_ (steps_cons ?_ (steps_cons ?_ (steps_cons ?_ (steps_cons ?_ (steps_nil))))))))))))))) ?_
      ·intro a w hs
       exact hs.startF [50, 51, 52, 53, 54, 55, 56, 57, 58, 59, 60, 61, 62, 63] [0, 1, 2] [] rfl rfl rfl rfl
      ·intro L a w hv K Q hK
       have hs := hv
       refine wpOp_no rfl rfl rfl hs (congrArg (fun b => some (Value.bool b)) hg3) rfl rfl ?_
       intro a' w' hs'
       exact hK a' w' (hs'.putF (i := 5) rfl [0, 1, 2] [] rfl rfl rfl rfl)
      ·intro L a w hv K Q hK
       have hs := hv
       refine wpOp_no rfl rfl rfl hs (congrArg (fun b => some (Value.bool b)) hg3) rfl rfl ?_
       intro a' w' hs'
       exact hK a' w' (hs'.putF (i := 6) rfl [0, 1, 2] [] rfl rfl rfl rfl)
      ·intro L a w hv K Q hK
       have hs := hv
       refine wpOp_no rfl rfl rfl hs (congrArg (fun b => some (Value.bool b)) hg3) rfl rfl ?_
       intro a' w' hs'
       exact hK a' w' (hs'.putF (i := 7) rfl [0, 1, 2] [] rfl rfl rfl rfl)
      ·intro L a w hv K Q hK
       have hs := hv
       refine wpOp_no rfl rfl rfl hs (congrArg (fun b => some (Value.bool b)) hg3) rfl rfl ?_
       intro a' w' hs'
       exact hK a' w' (hs'.putF (i := 8) rfl [0, 1, 2] [] rfl rfl rfl rfl)
      ·intro L a w hv K Q hK
       have hs := hv
       refine wpOp_no rfl rfl rfl hs (congrArg (fun b => some (Value.bool b)) hg3) rfl rfl ?_
       intro a' w' hs'
       exact hK a' w' (hs'.putF (i := 9) rfl [0, 1, 2] [] rfl rfl rfl rfl)
      ·intro L a w hv K Q hK
       have hs := hv
       refine wpOp_no rfl rfl rfl hs (congrArg (fun b => some (Value.bool b)) hg3) rfl rfl ?_
       intro a' w' hs'
       exact hK a' w' (hs'.putF (i := 10) rfl [0, 1, 2] [] rfl rfl rfl rfl)
      ·intro L a w hv K Q hK
       have hs := hv
       refine wpOp_no rfl rfl rfl hs (congrArg (fun b => some (Value.bool b)) hg3) rfl rfl ?_
       intro a' w' hs'
       exact hK a' w' (hs'.putF (i := 11) rfl [0, 1, 2] [] rfl rfl rfl rfl)
      ·intro L a w hv K Q hK
       have hs := hv
       refine wpOp_no rfl rfl rfl hs (congrArg (fun b => some (Value.bool b)) hg3) rfl rfl ?_
       intro a' w' hs'
       exact hK a' w' (hs'.putF (i := 12) rfl [0, 1, 2] [] rfl rfl rfl rfl)
      ·intro L a w hv K Q hK
       have hs := hv
       refine wpOp_no rfl rfl rfl hs (congrArg (fun b => some (Value.bool b)) hg3) rfl rfl ?_
       intro a' w' hs'
       exact hK a' w' (hs'.putF (i := 13) rfl [0, 1, 2] [] rfl rfl rfl rfl)
      ·intro L a w hv K Q hK
       have hs := hv
       refine wpOp_no rfl rfl rfl hs (congrArg (fun b => some (Value.bool b)) hg3) rfl rfl ?_
       intro a' w' hs'
       exact hK a' w' (hs'.putF (i := 14) rfl [0, 1, 2] [] rfl rfl rfl rfl)
      ·intro L a w hv K Q hK
       have hs := hv
       refine wpOp_no rfl rfl rfl hs (congrArg (fun b => some (Value.bool b)) hg3) rfl rfl ?_
       intro a' w' hs'
       exact hK a' w' (hs'.putF (i := 15) rfl [0, 1, 2] [] rfl rfl rfl rfl)
      ·intro L a w hv K Q hK
       have hs := hv
       refine wpOp_no rfl rfl rfl hs (congrArg (fun b => some (Value.bool b)) hg3) rfl rfl ?_
       intro a' w' hs'
       exact hK a' w' (hs'.putF (i := 16) rfl [0, 1, 2] [] rfl rfl rfl rfl)
      ·intro L a w hv K Q hK
       have hs := hv
       refine wpOp_no rfl rfl rfl hs (congrArg (fun b => some (Value.bool b)) hg3) rfl rfl ?_
       intro a' w' hs'
       exact hK a' w' (hs'.putF (i := 17) rfl [0, 1, 2] [] rfl rfl rfl rfl)
      ·intro L a w hv K Q hK
       have hs := hv
       refine wpOp_no rfl rfl rfl hs (congrArg (fun b => some (Value.bool b)) hg3) rfl rfl ?_
       intro a' w' hs'
       exact hK a' w' (hs'.putF (i := 18) rfl [0, 1, 2] [] rfl rfl rfl rfl)
      ·intro L a w hL hv
       rw [allTrue hL] at hv
       have hs := hv
       refine (show TA _ _ _ 25 ⟨[(6, some (v4)), (7, some (v5)), (8, some (v6)), (9, some (vI i1)), (49, some (vB ((y1 % y2) != (0 : UInt64)))), (59, some (undef)), (63, some (undef))], [some (rowS u64S v4 l1), some (rowS u64S v5 l2), some (rowS u64S v6 l3)], []⟩ from ?_) a w (hs.wkS [6, 7, 8, 9, 49, 59, 63] [0, 1, 2] [] rfl rfl rfl rfl)
       clear hs hL
       refine TA_no htb (by kernel_rfl) rfl rfl rfl (congrArg (fun b => some (Value.bool b)) hg3) rfl rfl ?_
       refine TA_step htb (by kernel_rfl) rfl rfl (OpT_pickT rfl rfl rfl (congrArg (fun b => some (Value.bool b)) hg3) rfl) ?_
       refine TA_end rfl ?_
       refine Tk_wkS (fr' := [(6, some (v4)), (7, some (v5)), (8, some (v6)), (9, some (vI i1)), (65, some (vB true))]) (own' := [some (rowS u64S v4 l1), some (rowS u64S v5 l2), some (rowS u64S v6 l3)]) (shr' := []) [6, 7, 8, 9, 65] [0, 1, 2] [] rfl rfl rfl rfl ?_
       refine Tk_condT rfl ?_
       refine Tk_seq (Tk_region (Tops_step rfl (OpT_assign rfl rfl rfl rfl) ?_))
       refine Tops_nil (Tk_wkS (fr' := [(2, some (vI (2 : Int)))]) (own' := []) (shr' := []) [2] [] [] rfl rfl rfl rfl ?_)
       obtain rfl := Option.some.inj h
       exact Tk_retV rfl rfl (resA (vs := [vI (2 : Int)]) rfl ⟨rfl, trivial⟩) [] [] rfl rfl rfl ⟨rfl, rfl, rfl⟩
     ·replace h := br_f hg3 h
      obtain ⟨y3, hx4, h⟩ := ob_e h
      obtain ⟨y4, hx5, h⟩ := ob_e h
      obtain ⟨y5, hx6, h⟩ := ob_e h
      refine TA_seg (lo := 11) (hi := 25) htb rfl rfl (by kernel_rfl) (fun c L a w => Sat c ⟨[(6, some (v4)), (7, some (v5)), (8, some (v6)), (9, some (vI i1)), (49, some (vB ((y1 % y2) != (0 : UInt64)))), (50, bif L 11 then some (v4) else none), (51, bif L 12 then some (vI i1) else none), (52, bif L 13 then some (rowPtr v4 (Int.toNat i1 * 1)) else none), (53, bif L 14 then some (vU64 y3) else none), (54, bif L 15 then some (v5) else none), (55, bif L 16 then some (vI i1) else none), (56, bif L 17 then some (rowPtr v5 (Int.toNat i1 * 1)) else none), (57, bif L 18 then some (vU64 y4) else none), (58, bif L 19 then some (vU64 (y4 - (1 : UInt64))) else none), (59, bif L 20 then some (vU64 (y3 + (y4 - (1 : UInt64)))) else none), (60, bif L 21 then some (v4) else none), (61, bif L 22 then some (vI i1) else none), (62, bif L 23 then some (rowPtr v4 (Int.toNat i1 * 1)) else none), (63, bif L 24 then some (vU64 y5) else none)], [(some (rowS u64S v4 l1) : Option Res), (some (rowS u64S v5 l2) : Option Res), (some (rowS u64S v6 l3) : Option Res)], []⟩ a w) [([], [13, 14, 20]), ([], [13, 14, 20]), ([11, 12], [14, 20]), ([11, 12, 13], [20]), ([], [17, 18, 19, 20]), ([], [17, 18, 19, 20]), ([15, 16], [18, 19, 20]), ([15, 16, 17], [19, 20]), ([15, 16, 17, 18], [20]), ([11, 12, 13, 14, 15, 16, 17, 18, 19], []), ([], [23, 24]), ([], [23, 24]), ([21, 22], [24]), ([21, 22, 23], [])] rfl (by kernel_rfl) ?_ (steps_cons ?_ (steps_cons ?_ (steps_cons ?_ (steps_cons ?_ (steps_cons ?_ (steps_cons ?_ (steps_cons ?_ (steps_cons ?_ (steps_cons ?_ (steps_cons ?_ (steps_cons ?_ (steps_cons ?_ (steps_cons ?_ (steps_cons ?_ (steps_nil))))))))))))))) ?_
      ·intro a w hs
       exact hs.startF [50, 51, 52, 53, 54, 55, 56, 57, 58, 59, 60, 61, 62, 63] [0, 1, 2] [] rfl rfl rfl rfl
      ·intro L a w hv K Q hK
       have hs := hv
       refine wpOp_yes rfl rfl rfl hs (congrArg (fun b => some (Value.bool b)) hg3) (OpT_move rfl rfl rfl rfl) ?_
       rintro _ rfl a' w' hs'
       exact hK a' w' (hs'.putF (i := 5) rfl [0, 1, 2] [] rfl rfl rfl rfl)
      ·intro L a w hv K Q hK
       have hs := hv
       refine wpOp_yes rfl rfl rfl hs (congrArg (fun b => some (Value.bool b)) hg3) (OpT_move rfl rfl rfl rfl) ?_
       rintro _ rfl a' w' hs'
       exact hK a' w' (hs'.putF (i := 6) rfl [0, 1, 2] [] rfl rfl rfl rfl)
      ·intro L a w hv K Q hK
       have hs := hv
       refine wpOp_yes rfl rfl rfl hs (congrArg (fun b => some (Value.bool b)) hg3) (OpT_idxO rfl rfl rfl rfl rfl slF77 (i := 0) rfl hx4) ?_
       rintro _ rfl a' w' hs'
       exact hK a' w' (hs'.putF (i := 7) rfl [0, 1, 2] [] rfl rfl rfl rfl)
      ·intro L a w hv K Q hK
       have hs := hv
       refine wpOp_yes rfl rfl rfl hs (congrArg (fun b => some (Value.bool b)) hg3) (OpT_loadO (S := u64S) rfl rfl rfl rfl rfl tyF22 (i := 0) rfl hx4 rfl rfl) ?_
       rintro _ rfl a' w' hs'
       exact hK a' w' (hs'.putF (i := 8) rfl [0, 1, 2] [] rfl rfl rfl rfl)
      ·intro L a w hv K Q hK
       have hs := hv
       refine wpOp_yes rfl rfl rfl hs (congrArg (fun b => some (Value.bool b)) hg3) (OpT_move rfl rfl rfl rfl) ?_
       rintro _ rfl a' w' hs'
       exact hK a' w' (hs'.putF (i := 9) rfl [0, 1, 2] [] rfl rfl rfl rfl)
      ·intro L a w hv K Q hK
       have hs := hv
       refine wpOp_yes rfl rfl rfl hs (congrArg (fun b => some (Value.bool b)) hg3) (OpT_move rfl rfl rfl rfl) ?_
       rintro _ rfl a' w' hs'
       exact hK a' w' (hs'.putF (i := 10) rfl [0, 1, 2] [] rfl rfl rfl rfl)
      ·intro L a w hv K Q hK
       have hs := hv
       refine wpOp_yes rfl rfl rfl hs (congrArg (fun b => some (Value.bool b)) hg3) (OpT_idxO rfl rfl rfl rfl rfl slF77 (i := 1) rfl hx5) ?_
       rintro _ rfl a' w' hs'
       exact hK a' w' (hs'.putF (i := 11) rfl [0, 1, 2] [] rfl rfl rfl rfl)
      ·intro L a w hv K Q hK
       have hs := hv
       refine wpOp_yes rfl rfl rfl hs (congrArg (fun b => some (Value.bool b)) hg3) (OpT_loadO (S := u64S) rfl rfl rfl rfl rfl tyF22 (i := 1) rfl hx5 rfl rfl) ?_
       rintro _ rfl a' w' hs'
       exact hK a' w' (hs'.putF (i := 12) rfl [0, 1, 2] [] rfl rfl rfl rfl)
      ·intro L a w hv K Q hK
       have hs := hv
       refine wpOp_yes rfl rfl rfl hs (congrArg (fun b => some (Value.bool b)) hg3) (OpT_bin rfl rfl rfl rfl rfl (bin_sub_u64 (a := y4) (b := (1 : UInt64)))) ?_
       rintro _ rfl a' w' hs'
       exact hK a' w' (hs'.putF (i := 13) rfl [0, 1, 2] [] rfl rfl rfl rfl)
      ·intro L a w hv K Q hK
       have hs := hv
       refine wpOp_yes rfl rfl rfl hs (congrArg (fun b => some (Value.bool b)) hg3) (OpT_bin rfl rfl rfl rfl rfl (bin_add_u64 (a := y3) (b := y4 - (1 : UInt64)))) ?_
       rintro _ rfl a' w' hs'
       exact hK a' w' (hs'.putF (i := 14) rfl [0, 1, 2] [] rfl rfl rfl rfl)
      ·intro L a w hv K Q hK
       have hs := hv
       refine wpOp_yes rfl rfl rfl hs (congrArg (fun b => some (Value.bool b)) hg3) (OpT_move rfl rfl rfl rfl) ?_
       rintro _ rfl a' w' hs'
       exact hK a' w' (hs'.putF (i := 15) rfl [0, 1, 2] [] rfl rfl rfl rfl)
      ·intro L a w hv K Q hK
       have hs := hv
       refine wpOp_yes rfl rfl rfl hs (congrArg (fun b => some (Value.bool b)) hg3) (OpT_move rfl rfl rfl rfl) ?_
       rintro _ rfl a' w' hs'
       exact hK a' w' (hs'.putF (i := 16) rfl [0, 1, 2] [] rfl rfl rfl rfl)
      ·intro L a w hv K Q hK
       have hs := hv
       refine wpOp_yes rfl rfl rfl hs (congrArg (fun b => some (Value.bool b)) hg3) (OpT_idxO rfl rfl rfl rfl rfl slF77 (i := 0) rfl hx6) ?_
       rintro _ rfl a' w' hs'
       exact hK a' w' (hs'.putF (i := 17) rfl [0, 1, 2] [] rfl rfl rfl rfl)
      ·intro L a w hv K Q hK
       have hs := hv
       refine wpOp_yes rfl rfl rfl hs (congrArg (fun b => some (Value.bool b)) hg3) (OpT_loadO (S := u64S) rfl rfl rfl rfl rfl tyF22 (i := 0) rfl hx6 rfl rfl) ?_
       rintro _ rfl a' w' hs'
       exact hK a' w' (hs'.putF (i := 18) rfl [0, 1, 2] [] rfl rfl rfl rfl)
      ·intro L a w hL hv
       rw [allTrue hL] at hv
       have hs := hv
       refine (show TA _ _ _ 25 ⟨[(6, some (v4)), (7, some (v5)), (8, some (v6)), (9, some (vI i1)), (49, some (vB ((y1 % y2) != (0 : UInt64)))), (59, some (vU64 (y3 + (y4 - (1 : UInt64))))), (63, some (vU64 y5))], [some (rowS u64S v4 l1), some (rowS u64S v5 l2), some (rowS u64S v6 l3)], []⟩ from ?_) a w (hs.wkS [6, 7, 8, 9, 49, 59, 63] [0, 1, 2] [] rfl rfl rfl rfl)
       clear hs hL
       refine TA_yes htb (by kernel_rfl) rfl rfl rfl (congrArg (fun b => some (Value.bool b)) hg3) (OpT_bin rfl rfl rfl rfl rfl (bin_lss_u64 (a := y3 + (y4 - (1 : UInt64))) (b := y5))) ?_
       rintro _ rfl
       refine TA_step htb (by kernel_rfl) rfl rfl (OpT_pickF rfl rfl rfl (congrArg (fun b => some (Value.bool b)) hg3) rfl) ?_
       refine TA_end rfl ?_
       refine Tk_wkS (fr' := [(6, some (v4)), (7, some (v5)), (8, some (v6)), (9, some (vI i1)), (65, some (vB (decide ((y3 + (y4 - (1 : UInt64))) < y5))))]) (own' := [some (rowS u64S v4 l1), some (rowS u64S v5 l2), some (rowS u64S v6 l3)]) (shr' := []) [6, 7, 8, 9, 65] [0, 1, 2] [] rfl rfl rfl rfl ?_
       rcases Bool.eq_false_or_eq_true (decide ((y3 + (y4 - (1 : UInt64))) < y5)) with hg4 | hg4
       ·replace h := br_t hg4 h
        refine Tk_condT (congrArg (fun b => some (Value.bool b)) hg4) ?_
        refine Tk_seq (Tk_region (Tops_step rfl (OpT_assign rfl rfl rfl rfl) ?_))
        refine Tops_nil (Tk_wkS (fr' := [(2, some (vI (2 : Int)))]) (own' := []) (shr' := []) [2] [] [] rfl rfl rfl rfl ?_)
        obtain rfl := Option.some.inj h
        exact Tk_retV rfl rfl (resA (vs := [vI (2 : Int)]) rfl ⟨rfl, trivial⟩) [] [] rfl rfl rfl ⟨rfl, rfl, rfl⟩
       ·replace h := br_f hg4 h
        refine Tk_condF (congrArg (fun b => some (Value.bool b)) hg4) ?_
        refine Tk_skip (Tk_seq (Tk_region (Tops_step rfl (OpT_assign rfl rfl rfl rfl) ?_)))
        refine Tops_nil (Tk_wkS (fr' := [(6, some (v4)), (7, some (v5)), (8, some (v6)), (9, some (vI i1)), (10, some (vI (0 : Int)))]) (own' := [some (rowS u64S v4 l1), some (rowS u64S v5 l2), some (rowS u64S v6 l3)]) (shr' := []) [6, 7, 8, 9, 10] [0, 1, 2] [] rfl rfl rfl rfl ?_)
        refine Tk_block (Tk_loopS (σ := Int) [6, 7, 8, 9, 10] [0, 1, 2] [] (fun s => ⟨[(6, some (v4)), (7, some (v5)), (8, some (v6)), (9, some (vI i1)), (10, some (vI s))], [some (rowS u64S v4 l1), some (rowS u64S v5 l2), some (rowS u64S v6 l3)], []⟩) (fun nf3 s => ref_Check04L3 l1 l2 i1 (ref_Check04L2 l1 l2 l3 nf2) nf3 s = some r) fuel (0 : Int) h rfl rfl rfl rfl rfl (fun s h => by cases h) ?_)
        rintro nf3 k1 h
        replace h : ref_Check04L3B l1 l2 i1 (ref_Check04L2 l1 l2 l3 nf2) (ref_Check04L3 l1 l2 i1 (ref_Check04L2 l1 l2 l3 nf2) nf3) k1 = some r := h
        unfold ref_Check04L3B at h
        refine Tk_seq (Tk_seq (Tk_region (Tops_step rfl (OpT_move rfl rfl rfl rfl) ?_)))
        refine Tops_step rfl (OpT_move rfl rfl rfl rfl) ?_
        refine Tops_step rfl (OpT_bin rfl rfl rfl rfl rfl (bin_lss_i (a := k1) (b := i1))) ?_
        refine Tops_nil (Tk_wkS (fr' := [(6, some (v4)), (7, some (v5)), (8, some (v6)), (9, some (vI i1)), (10, some (vI k1)), (68, some (vB (decide (k1 < i1))))]) (own' := [some (rowS u64S v4 l1), some (rowS u64S v5 l2), some (rowS u64S v6 l3)]) (shr' := []) [6, 7, 8, 9, 10, 68] [0, 1, 2] [] rfl rfl rfl rfl ?_)
        rcases Bool.eq_false_or_eq_true (decide (k1 < i1)) with hg5 | hg5
        ·replace h := br_t hg5 h
         refine Tk_condT (congrArg (fun b => some (Value.bool b)) hg5) ?_
         refine Tk_skip (Tk_seq (Tk_block (Tk_seq (Tk_drawT (by kernel_rfl) ?_))))
         refine TA_tb [0, 0, 3, 7, 0, 0, 48, 112, 0, 0, 768, 1792, 0, 0, 12288, 28672, 65535] (by kernel_rfl) fun htb => ?_
         refine TA_wkS (fr' := [(6, some (v4)), (7, some (v5)), (8, some (v6)), (9, some (vI i1)), (10, some (vI k1))]) (own' := [some (rowS u64S v4 l1), some (rowS u64S v5 l2), some (rowS u64S v6 l3)]) (shr' := []) [6, 7, 8, 9, 10] [0, 1, 2] [] rfl rfl rfl rfl ?_
         obtain ⟨y6, hx7, h⟩ := ob_e h
         obtain ⟨y7, hx8, h⟩ := ob_e h
         obtain ⟨y8, hx9, h⟩ := ob_e h
         obtain ⟨y9, hx10, h⟩ := ob_e h
         refine TA_seg (lo := 0) (hi := 16) htb rfl rfl (by kernel_rfl) (fun c L a w => Sat c ⟨[(6, some (v4)), (7, some (v5)), (8, some (v6)), (9, some (vI i1)), (10, some (vI k1)), (71, bif L 0 then some (v4) else none), (72, bif L 1 then some (vI i1) else none), (73, bif L 2 then some (rowPtr v4 (Int.toNat i1 * 1)) else none), (74, bif L 3 then some (vU64 y6) else none), (75, bif L 4 then some (v5) else none), (76, bif L 5 then some (vI i1) else none), (77, bif L 6 then some (rowPtr v5 (Int.toNat i1 * 1)) else none), (78, bif L 7 then some (vU64 y7) else none), (79, bif L 8 then some (v4) else none), (80, bif L 9 then some (vI k1) else none), (81, bif L 10 then some (rowPtr v4 (Int.toNat k1 * 1)) else none), (82, bif L 11 then some (vU64 y8) else none), (83, bif L 12 then some (v5) else none), (84, bif L 13 then some (vI k1) else none), (85, bif L 14 then some (rowPtr v5 (Int.toNat k1 * 1)) else none), (86, bif L 15 then some (vU64 y9) else none)], [(some (rowS u64S v4 l1) : Option Res), (some (rowS u64S v5 l2) : Option Res), (some (rowS u64S v6 l3) : Option Res)], []⟩ a w) [([], [2, 3]), ([], [2, 3]), ([0, 1], [3]), ([0, 1, 2], []), ([], [6, 7]), ([], [6, 7]), ([4, 5], [7]), ([4, 5, 6], []), ([], [10, 11]), ([], [10, 11]), ([8, 9], [11]), ([8, 9, 10], []), ([], [14, 15]), ([], [14, 15]), ([12, 13], [15]), ([12, 13, 14], [])] rfl (by kernel_rfl) ?_ (steps_cons ?_ (steps_cons ?_ (steps_cons ?_ (steps_cons ?_ (steps_cons ?_ (steps_cons ?_ (steps_cons ?_ (steps_cons ?_ (steps_cons ?_ (steps_cons ?_ (steps_cons ?_ (steps_cons ?_ (steps_cons ?_ (steps_cons ?_ (steps_cons ?_ (steps_cons ?_ (steps_nil))))))))))))))))) ?_
         ·intro a w hs
          exact hs.startF [71, 72, 73, 74, 75, 76, 77, 78, 79, 80, 81, 82, 83, 84, 85, 86] [0, 1, 2] [] rfl rfl rfl rfl
         ·intro L a w hv K Q hK
          have hs := hv
          refine wpOp_go rfl rfl hs (OpT_move rfl rfl rfl rfl) ?_
          rintro _ rfl a' w' hs'
          exact hK a' w' (hs'.putF (i := 5) rfl [0, 1, 2] [] rfl rfl rfl rfl)
         ·intro L a w hv K Q hK
          have hs := hv
          refine wpOp_go rfl rfl hs (OpT_move rfl rfl rfl rfl) ?_
          rintro _ rfl a' w' hs'
          exact hK a' w' (hs'.putF (i := 6) rfl [0, 1, 2] [] rfl rfl rfl rfl)
         ·intro L a w hv K Q hK
          have hs := hv
          refine wpOp_go rfl rfl hs (OpT_idxO rfl rfl rfl rfl rfl slF77 (i := 0) rfl hx7) ?_
          rintro _ rfl a' w' hs'
          exact hK a' w' (hs'.putF (i := 7) rfl [0, 1, 2] [] rfl rfl rfl rfl)
         ·intro L a w hv K Q hK
          have hs := hv
          refine wpOp_go rfl rfl hs (OpT_loadO (S := u64S) rfl rfl rfl rfl rfl tyF22 (i := 0) rfl hx7 rfl rfl) ?_
          rintro _ rfl a' w' hs'
          exact hK a' w' (hs'.putF (i := 8) rfl [0, 1, 2] [] rfl rfl rfl rfl)
         ·intro L a w hv K Q hK
          have hs := hv
          refine wpOp_go rfl rfl hs (OpT_move rfl rfl rfl rfl) ?_
          rintro _ rfl a' w' hs'
          exact hK a' w' (hs'.putF (i := 9) rfl [0, 1, 2] [] rfl rfl rfl rfl)
         ·intro L a w hv K Q hK
          have hs := hv
          refine wpOp_go rfl rfl hs (OpT_move rfl rfl rfl rfl) ?_
          rintro _ rfl a' w' hs'
          exact hK a' w' (hs'.putF (i := 10) rfl [0, 1, 2] [] rfl rfl rfl rfl)
         ·intro L a w hv K Q hK
          have hs := hv
          refine wpOp_go rfl rfl hs (OpT_idxO rfl rfl rfl rfl rfl slF77 (i := 1) rfl hx8) ?_
          rintro _ rfl a' w' hs'
          exact hK a' w' (hs'.putF (i := 11) rfl [0, 1, 2] [] rfl rfl rfl rfl)
         ·intro L a w hv K Q hK
          have hs := hv
          refine wpOp_go rfl rfl hs (OpT_loadO (S := u64S) rfl rfl rfl rfl rfl tyF22 (i := 1) rfl hx8 rfl rfl) ?_
          rintro _ rfl a' w' hs'
          exact hK a' w' (hs'.putF (i := 12) rfl [0, 1, 2] [] rfl rfl rfl rfl)
         ·intro L a w hv K Q hK
          have hs := hv
          refine wpOp_go rfl rfl hs (OpT_move rfl rfl rfl rfl) ?_
          rintro _ rfl a' w' hs'
          exact hK a' w' (hs'.putF (i := 13) rfl [0, 1, 2] [] rfl rfl rfl rfl)
         ·intro L a w hv K Q hK
          have hs := hv
          refine wpOp_go rfl rfl hs (OpT_move rfl rfl rfl rfl) ?_
          rintro _ rfl a' w' hs'
          exact hK a' w' (hs'.putF (i := 14) rfl [0, 1, 2] [] rfl rfl rfl rfl)
         ·intro L a w hv K Q hK
          have hs := hv
          refine wpOp_go rfl rfl hs (OpT_idxO rfl rfl rfl rfl rfl slF77 (i := 0) rfl hx9) ?_
          rintro _ rfl a' w' hs'
          exact hK a' w' (hs'.putF (i := 15) rfl [0, 1, 2] [] rfl rfl rfl rfl)
         ·intro L a w hv K Q hK
          have hs := hv
          refine wpOp_go rfl rfl hs (OpT_loadO (S := u64S) rfl rfl rfl rfl rfl tyF22 (i := 0) rfl hx9 rfl rfl) ?_
          rintro _ rfl a' w' hs'
          exact hK a' w' (hs'.putF (i := 16) rfl [0, 1, 2] [] rfl rfl rfl rfl)
         ·intro L a w hv K Q hK
          have hs := hv
          refine wpOp_go rfl rfl hs (OpT_move rfl rfl rfl rfl) ?_
          rintro _ rfl a' w' hs'
          exact hK a' w' (hs'.putF (i := 17) rfl [0, 1, 2] [] rfl rfl rfl rfl)
         ·intro L a w hv K Q hK
          have hs := hv
          refine wpOp_go rfl rfl hs (OpT_move rfl rfl rfl rfl) ?_
          rintro _ rfl a' w' hs'
          exact hK a' w' (hs'.putF (i := 18) rfl [0, 1, 2] [] rfl rfl rfl rfl)
         ·intro L a w hv K Q hK
          have hs := hv
          refine wpOp_go rfl rfl hs (OpT_idxO rfl rfl rfl rfl rfl slF77 (i := 1) rfl hx10) ?_
          rintro _ rfl a' w' hs'
          exact hK a' w' (hs'.putF (i := 19) rfl [0, 1, 2] [] rfl rfl rfl rfl)
         ·intro L a w hv K Q hK
          have hs := hv
          refine wpOp_go rfl rfl hs (OpT_loadO (S := u64S) rfl rfl rfl rfl rfl tyF22 (i := 1) rfl hx10 rfl rfl) ?_
          rintro _ rfl a' w' hs'
          exact hK a' w' (hs'.putF (i := 20) rfl [0, 1, 2] [] rfl rfl rfl rfl)
         ·intro L a w hL hv
          rw [allTrue hL] at hv
          have hs := hv
          refine (show TA _ _ _ 16 ⟨[(6, some (v4)), (7, some (v5)), (8, some (v6)), (9, some (vI i1)), (10, some (vI k1)), (74, some (vU64 y6)), (78, some (vU64 y7)), (82, some (vU64 y8)), (86, some (vU64 y9))], [some (rowS u64S v4 l1), some (rowS u64S v5 l2), some (rowS u64S v6 l3)], []⟩ from ?_) a w (hs.wkS [6, 7, 8, 9, 10, 74, 78, 82, 86] [0, 1, 2] [] rfl rfl rfl rfl)
          clear hs hL
          obtain ⟨common1, hx11, h⟩ := ob_e h
          refine TA_exP htb (by kernel_rfl) rfl rfl (OpT_call (w_ref_common04 hx11) [] [] rfl rfl rfl rfl rfl callee38 rfl rfl rfl rfl) ?_
          rintro _ ⟨_, _, _, ⟨rfl, rfl, rfl⟩, rfl⟩
          refine TA_end rfl ?_
          refine Tk_wkS (fr' := [(6, some (v4)), (7, some (v5)), (8, some (v6)), (9, some (vI i1)), (10, some (vI k1)), (87, some (vB common1))]) (own' := [some (rowS u64S v4 l1), some (rowS u64S v5 l2), some (rowS u64S v6 l3)]) (shr' := []) [6, 7, 8, 9, 10, 87] [0, 1, 2] [] rfl rfl rfl rfl ?_
          rcases Bool.eq_false_or_eq_true (common1) with hg6 | hg6
          ·replace h := br_t hg6 h
           refine Tk_condT (congrArg (fun b => some (Value.bool b)) hg6) ?_
           refine Tk_seq (Tk_region (Tops_step rfl (OpT_assign rfl rfl rfl rfl) ?_))
           refine Tops_nil (Tk_wkS (fr' := [(2, some (vI (2 : Int)))]) (own' := []) (shr' := []) [2] [] [] rfl rfl rfl rfl ?_)
           obtain rfl := Option.some.inj h
           exact Tk_retV rfl rfl (resA (vs := [vI (2 : Int)]) rfl ⟨rfl, trivial⟩) [] [] rfl rfl rfl ⟨rfl, rfl, rfl⟩
          ·replace h := br_f hg6 h
           refine Tk_condF (congrArg (fun b => some (Value.bool b)) hg6) ?_
           refine Tk_skip (Tk_blk (Tk_region (Tops_step rfl (OpT_move rfl rfl rfl rfl) ?_)))
           refine Tops_step rfl (OpT_bin rfl rfl rfl rfl rfl (bin_add_i (a := k1) (b := (1 : Int)))) ?_
           refine Tops_step rfl (OpT_assign rfl rfl rfl rfl) ?_
           refine Tops_nil (Tk_wkS (fr' := [(6, some (v4)), (7, some (v5)), (8, some (v6)), (9, some (vI i1)), (10, some (vI (wi (k1 + (1 : Int)))))]) (own' := [some (rowS u64S v4 l1), some (rowS u64S v5 l2), some (rowS u64S v6 l3)]) (shr' := []) [6, 7, 8, 9, 10] [0, 1, 2] [] rfl rfl rfl rfl ?_)
           exact Tk_backS (wi (k1 + (1 : Int))) h [6, 7, 8, 9, 10] [0, 1, 2] [] rfl rfl rfl rfl rfl
        ·replace h := br_f hg5 h
         refine Tk_condF (congrArg (fun b => some (Value.bool b)) hg5) ?_
         refine Tk_exit _ rfl ?_
         refine Tk_blk (Tk_region (Tops_step rfl (OpT_move rfl rfl rfl rfl) ?_))
         refine Tops_step rfl (OpT_bin rfl rfl rfl rfl rfl (bin_add_i (a := i1) (b := (1 : Int)))) ?_
         refine Tops_step rfl (OpT_assign rfl rfl rfl rfl) ?_
         refine Tops_nil (Tk_wkS (fr' := [(6, some (v4)), (7, some (v5)), (8, some (v6)), (9, some (vI (wi (i1 + (1 : Int)))))]) (own' := [some (rowS u64S v4 l1), some (rowS u64S v5 l2), some (rowS u64S v6 l3)]) (shr' := []) [6, 7, 8, 9] [0, 1, 2] [] rfl rfl rfl rfl ?_)
         exact Tk_backS (wi (i1 + (1 : Int))) h [6, 7, 8, 9] [0, 1, 2] [] rfl rfl rfl rfl rfl
   ·replace h := br_f hg2 h
    refine Tk_condF (congrArg (fun b => some (Value.bool b)) hg2) ?_
    refine Tk_exit _ rfl ?_
    refine Tk_seq (Tk_region (Tops_step rfl (OpT_assign rfl rfl rfl rfl) ?_))
    refine Tops_nil (Tk_wkS (fr' := [(2, some (vI (0 : Int)))]) (own' := []) (shr' := []) [2] [] [] rfl rfl rfl rfl ?_)
    obtain rfl := Option.some.inj h
    exact Tk_retV rfl rfl (resA (vs := [vI (0 : Int)]) rfl ⟨rfl, trivial⟩) [] [] rfl rfl rfl ⟨rfl, rfl, rfl⟩
  ·intro HJ1
   rcases Bool.eq_false_or_eq_true (rp0.Packed) with hg7 | hg7
   ·replace h := br_t hg7 h
    refine Tk_condT (congrArg (fun b => some (Value.bool b)) hg7) ?_
    refine Tk_region (Tops_step rfl (OpT_move rfl rfl rfl rfl) ?_)
    obtain ⟨y10, hx12, h⟩ := ob_e h
    refine Tops_step rfl (OpT_idxO rfl rfl rfl rfl rfl slF77 (i := 2) rfl hx12) ?_
    refine Tops_step rfl (OpT_storeO (S := u64S) (u := (4 : UInt64)) rfl rfl rfl rfl rfl tyF22 (i := 2) rfl hx12 rfl) ?_
    refine Tops_nil (Tk_wkS (fr' := [(6, some (v1)), (7, some (v2)), (8, some (v3))]) (own' := [some (rowS u64S v1 [rp0.Desc, rp0.Driver, rp0.Device]), some (rowS u64S v2 [parts1.1, parts1.2.1, parts1.2.2]), some (rowS u64S v3 ([(16 : UInt64), (2 : UInt64), (4 : UInt64)].set (1 : Int).toNat (4 : UInt64)))]) (shr' := []) [6, 7, 8] [0, 1, 2] [] rfl rfl rfl rfl ?_)
    exact Tk_jmpS (HJ1 ([rp0.Desc, rp0.Driver, rp0.Device], [parts1.1, parts1.2.1, parts1.2.2], [(16 : UInt64), (2 : UInt64), (4 : UInt64)].set (1 : Int).toNat (4 : UInt64), v1, v2, v3) h) [6, 7, 8] [0, 1, 2] [] rfl rfl rfl rfl
   ·replace h := br_f hg7 h
    refine Tk_condF (congrArg (fun b => some (Value.bool b)) hg7) ?_
    refine Tk_skip ?_
    exact Tk_jmpS (HJ1 ([rp0.Desc, rp0.Driver, rp0.Device], [parts1.1, parts1.2.1, parts1.2.2], [(16 : UInt64), (2 : UInt64), (4 : UInt64)], v1, v2, v3) h) [6, 7, 8] [0, 1, 2] [] rfl rfl rfl rfl
end Go.Proofs.Ytbeendakebamhaa
