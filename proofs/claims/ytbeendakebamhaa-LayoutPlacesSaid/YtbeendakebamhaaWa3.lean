/- The functions do what the plain words say: each is walked once. No statement of the seat is proved here; no condition. -/
import Derived.Test.YtbeendakebamhaaWa2
namespace Go.Proofs.Ytbeendakebamhaa

set_option maxRecDepth 100000 in
set_option maxHeartbeats 4000000 in
theorem w_gmem_Mem_Read {m : gmem_Mem} {atp1 : UInt64} {np2 : Int} {b_m : Nat} {vm1 : Value} {vm2 : Value} {vsm1 : List Value} {r : ((List UInt8) × Int)} (h : gmem_Mem_Read m atp1 np2 = some r) :
  Ctr Try.prog 35 #[.pointer (some ⟨b_m, 0, none⟩), vU64 atp1, vI np2] [(cellsR b_m 72 [vm1, vm2]), (rowsX u8S true vm2 vsm1 m.b none)] [Fact.sl RegionS vm1 m.l]
   (fun rv own shr => ∃ (w1 : Value), rv = .tuple #[w1, vI r.2] ∧ own = [(cellsR b_m 72 [vm1, vm2]), (rowsX u8S true vm2 vsm1 m.b none), (rowS u8S w1 r.1)] ∧ shr = []) := by
 unfold gmem_Mem_Read at h
 refine Ctr.mk (args := [.pointer (some ⟨b_m, 0, none⟩), vU64 atp1, vI np2]) Try.func35 rfl rfl (fun R0 w0 B => ?_)
 refine Tk_seq (Tk_region (Tops_step rfl (OpT_assign rfl rfl rfl rfl) ?_))
 refine Tops_step rfl (OpT_assign rfl rfl rfl rfl) ?_
 refine Tops_nil (Tk_wkS (fr' := [(0, some (.pointer (some ⟨b_m, 0, none⟩))), (1, some (vU64 atp1)), (2, some (vI np2))]) (own' := [some (cellsR b_m 72 [vm1, vm2]), some (rowsX u8S true vm2 vsm1 m.b none)]) (shr' := [Fact.sl RegionS vm1 m.l]) [0, 1, 2] [0, 1] [0] rfl rfl rfl rfl ?_)
 refine Tk_seq (Tk_seq (Tk_region (Tops_step rfl (OpT_move rfl rfl rfl rfl) ?_)))
 obtain ⟨made1, hx1, h⟩ := ob_e h
 refine Tops_exP rfl (OpT_callP [2, 3] (w_gmem_Mem_made hx1) [0, 1] [0] rfl rfl rfl rfl rfl callee43 rfl rfl rfl rfl rfl) ?_
 rintro _ ⟨_, _, _, ⟨rfl, rfl, rfl⟩, rfl⟩
 refine Tops_step rfl (OpT_not rfl rfl rfl rfl) ?_
 refine Tops_nil (Tk_wkS (fr' := [(0, some (.pointer (some ⟨b_m, 0, none⟩))), (1, some (vU64 atp1)), (2, some (vI np2)), (11, some (vB (!made1)))]) (own' := [some (cellsR b_m 72 [vm1, vm2]), some (rowsX u8S true vm2 vsm1 m.b none)]) (shr' := [Fact.sl RegionS vm1 m.l]) [0, 1, 2, 11] [0, 1] [0] rfl rfl rfl rfl ?_)
 refine Tk_condF (congrArg (fun b => some (Value.bool b)) (congrArg (!·) (Option.some.inj (show some true = some made1 from hx1)).symm)) ?_
 refine Tk_skip (Tk_seq (Tk_block (Tk_seq (Tk_region (Tops_step rfl (OpT_move rfl rfl rfl rfl) ?_)))))
 refine Tops_step rfl (OpT_bin rfl rfl rfl rfl rfl (bin_lss_i (a := np2) (b := (0 : Int)))) ?_
 refine Tops_step rfl (OpT_assign rfl rfl rfl rfl) ?_
 refine Tops_nil (Tk_wkS (fr' := [(0, some (.pointer (some ⟨b_m, 0, none⟩))), (1, some (vU64 atp1)), (2, some (vI np2)), (12, some (vB (decide (np2 < (0 : Int)))))]) (own' := [some (cellsR b_m 72 [vm1, vm2]), some (rowsX u8S true vm2 vsm1 m.b none)]) (shr' := [Fact.sl RegionS vm1 m.l]) [0, 1, 2, 12] [0, 1] [0] rfl rfl rfl rfl ?_)
 rcases Bool.eq_false_or_eq_true (decide (np2 < (0 : Int))) with hg1 | hg1
 ·replace h := br_t hg1 h
  refine Tk_condT (congrArg (fun b => some (Value.bool b)) hg1) ?_
  refine Tk_seq (Tk_region (Tops_step rfl (OpT_assign rfl rfl rfl rfl) ?_))
  refine Tops_step rfl (OpT_assign rfl rfl rfl rfl) ?_
  refine Tops_nil (Tk_wkS (fr' := [(6, some (.slice none 0 0)), (7, some (vI (2 : Int)))]) (own' := [some (cellsR b_m 72 [vm1, vm2]), some (rowsX u8S true vm2 vsm1 m.b none)]) (shr' := [Fact.sl RegionS vm1 m.l]) [6, 7] [0, 1] [0] rfl rfl rfl rfl ?_)
  refine Tk_nilrow u8S ?_
  obtain rfl := Option.some.inj h
  exact Tk_retV rfl rfl (resA (vs := [.slice none 0 0, vI (2 : Int)]) rfl ⟨rfl, rfl, trivial⟩) [0, 1, 2] [] rfl rfl rfl ⟨(.slice none 0 0), rfl, rfl, rfl⟩
 ·replace h := br_f hg1 h
  refine Tk_condF (congrArg (fun b => some (Value.bool b)) hg1) ?_
  refine Tk_seq (Tk_region (Tops_step rfl (OpT_move rfl rfl rfl rfl) ?_))
  refine Tops_step rfl (OpT_bin rfl rfl rfl rfl rfl (bin_eql_i (a := np2) (b := (0 : Int)))) ?_
  refine Tops_step rfl (OpT_assign rfl rfl rfl rfl) ?_
  refine Tops_nil (Tk_wkS (fr' := [(0, some (.pointer (some ⟨b_m, 0, none⟩))), (1, some (vU64 atp1)), (2, some (vI np2)), (15, some (vB (np2 == (0 : Int))))]) (own' := [some (cellsR b_m 72 [vm1, vm2]), some (rowsX u8S true vm2 vsm1 m.b none)]) (shr' := [Fact.sl RegionS vm1 m.l]) [0, 1, 2, 15] [0, 1] [0] rfl rfl rfl rfl ?_)
  rcases Bool.eq_false_or_eq_true (np2 == (0 : Int)) with hg2 | hg2
  ·replace h := br_t hg2 h
   refine Tk_condT (congrArg (fun b => some (Value.bool b)) hg2) ?_
   refine Tk_seq (Tk_region (Tops_step rfl (OpT_assign rfl rfl rfl rfl) ?_))
   refine Tops_step rfl (OpT_assign rfl rfl rfl rfl) ?_
   refine Tops_nil (Tk_wkS (fr' := [(6, some (.slice none 0 0)), (7, some (vI (0 : Int)))]) (own' := [some (cellsR b_m 72 [vm1, vm2]), some (rowsX u8S true vm2 vsm1 m.b none)]) (shr' := [Fact.sl RegionS vm1 m.l]) [6, 7] [0, 1] [0] rfl rfl rfl rfl ?_)
   refine Tk_nilrow u8S ?_
   obtain rfl := Option.some.inj h
   exact Tk_retV rfl rfl (resA (vs := [.slice none 0 0, vI (0 : Int)]) rfl ⟨rfl, rfl, trivial⟩) [0, 1, 2] [] rfl rfl rfl ⟨(.slice none 0 0), rfl, rfl, rfl⟩
  ·replace h := br_f hg2 h
   refine Tk_condF (congrArg (fun b => some (Value.bool b)) hg2) ?_
   refine Tk_skip (Tk_blk (Tk_seq (Tk_region (Tops_step rfl (OpT_move rfl rfl rfl rfl) ?_))))
   refine Tops_step rfl (OpT_move rfl rfl rfl rfl) ?_
   refine Tops_step rfl (OpT_move rfl rfl rfl rfl) ?_
   refine Tops_step rfl (OpT_cnv rfl rfl rfl rfl (cnv_i_u64 (n := np2) Try.underlying3 Try.underlying22)) ?_
   obtain ⟨bytes1, hx2, h⟩ := ob_e h
   refine Tops_exP rfl (OpT_callP [2, 3] (w_gmem_Mem_bytes hx2) [0, 1] [0] rfl rfl rfl rfl rfl callee44 rfl rfl rfl rfl rfl) ?_
   rintro _ ⟨_, _, _, ⟨rfl, rfl, rfl⟩, rfl⟩
   refine Tops_step rfl (OpT_assign rfl rfl rfl rfl) ?_
   refine Tops_nil (Tk_wkS (fr' := [(8, some (winV 1 vsm1 bytes1))]) (own' := [some (cellsR b_m 72 [vm1, vm2]), some (rowsX u8S true vm2 vsm1 m.b none)]) (shr' := [Fact.sl RegionS vm1 m.l]) [8] [0, 1] [0] rfl rfl rfl rfl ?_)
   rcases onO_cases h with ⟨ho1, h⟩ | ⟨w1, ho1, h⟩
   ·refine Tk_eqv (x := winV 1 vsm1 bytes1) (y := .slice none 0 0) (by rw [ho1]; rfl) (fun z => ⟨[(8, some (z))], [some (cellsR b_m 72 [vm1, vm2]), some (rowsX u8S true vm2 vsm1 m.b none)], [Fact.sl RegionS vm1 m.l]⟩) ?_
    refine Tk_seq (Tk_seq (Tk_region (Tops_step rfl (OpT_move rfl rfl rfl rfl) ?_)))
    refine Tops_step rfl (OpT_eqNilN rfl rfl rfl (.inl rfl) rfl rfl Try.underlying73) ?_
    refine Tops_nil (Tk_wkS (fr' := [(8, some (.slice none 0 0)), (24, some (vB true))]) (own' := [some (cellsR b_m 72 [vm1, vm2]), some (rowsX u8S true vm2 vsm1 m.b none)]) (shr' := [Fact.sl RegionS vm1 m.l]) [8, 24] [0, 1] [0] rfl rfl rfl rfl ?_)
    refine Tk_condT rfl ?_
    refine Tk_seq (Tk_region (Tops_step rfl (OpT_assign rfl rfl rfl rfl) ?_))
    refine Tops_step rfl (OpT_assign rfl rfl rfl rfl) ?_
    refine Tops_nil (Tk_wkS (fr' := [(6, some (.slice none 0 0)), (7, some (vI (5 : Int)))]) (own' := [some (cellsR b_m 72 [vm1, vm2]), some (rowsX u8S true vm2 vsm1 m.b none)]) (shr' := [Fact.sl RegionS vm1 m.l]) [6, 7] [0, 1] [0] rfl rfl rfl rfl ?_)
    refine Tk_nilrow u8S ?_
    obtain rfl := Option.some.inj h
    exact Tk_retV rfl rfl (resA (vs := [.slice none 0 0, vI (5 : Int)]) rfl ⟨rfl, rfl, trivial⟩) [0, 1, 2] [] rfl rfl rfl ⟨(.slice none 0 0), rfl, rfl, rfl⟩
   ·refine Tk_eqv (x := winV 1 vsm1 bytes1) (y := subV (vsAt vsm1 (Int.toNat w1.1)) 1 (Int.toNat w1.2.1) (Int.toNat w1.2.2)) (by rw [ho1]; rfl) (fun z => ⟨[(8, some (z))], [some (cellsR b_m 72 [vm1, vm2]), some (rowsX u8S true vm2 vsm1 m.b none)], [Fact.sl RegionS vm1 m.l]⟩) ?_
    obtain ⟨row1, hx3, h⟩ := ob_e h
    refine Tk_vs (vs_focus (i := 1) (j := w1.1) rfl hx3) ?_
    obtain ⟨hc1, h⟩ := chk_e h
    refine Tk_seq (Tk_seq (Tk_region (Tops_step rfl (OpT_move rfl rfl rfl rfl) ?_)))
    obtain ⟨hc2, h⟩ := chk_e h
    refine Tops_step rfl (OpT_eqSub (S := u8S) (l := w1.2.1) (m := w1.2.2) rfl rfl rfl (.inl rfl) rfl rfl Try.underlying73 (i := 2) rfl hc1 hc2) ?_
    refine Tops_nil (Tk_wkS (fr' := [(8, some (subV (vsAt vsm1 (Int.toNat w1.1)) 1 (Int.toNat w1.2.1) (Int.toNat w1.2.2))), (24, some (vB false))]) (own' := [some (cellsR b_m 72 [vm1, vm2]), some (rowsX u8S true vm2 vsm1 m.b (some (Int.toNat w1.1, vsAt vsm1 (Int.toNat w1.1)))), some (rowS u8S (vsAt vsm1 (Int.toNat w1.1)) row1)]) (shr' := [Fact.sl RegionS vm1 m.l]) [8, 24] [0, 1, 2] [0] rfl rfl rfl rfl ?_)
    refine Tk_condF rfl ?_
    refine Tk_skip (Tk_seq (Tk_region (Tops_step rfl (OpT_move rfl rfl rfl rfl) ?_)))
    obtain ⟨cloneb1, hx4, h⟩ := ob_e h
    refine Tops_exP rfl (OpT_callB [2] [0, 1, 2, 3] (w_slices_Clone_bytebyte hx4) [] rfl rfl rfl rfl rfl callee45 rfl rfl rfl rfl rfl rfl (bor_cons (bor_sub (S := u8S) (l := w1.2.1) (m := w1.2.2) 2 rfl rfl hc1) bor_nil) (by rintro _ _ _ ⟨_, rfl, rfl, rfl⟩; exact ⟨rfl, (ri_cons (ri_row (S := u8S) rfl _ _) ri_nil)⟩)) ?_
    rintro _ ⟨v1, _, _, ⟨_, rfl, rfl, rfl⟩, rfl⟩
    refine Tops_step rfl (OpT_assign rfl rfl rfl rfl) ?_
    refine Tops_step rfl (OpT_assign rfl rfl rfl rfl) ?_
    refine Tops_nil (Tk_wkS (fr' := [(6, some (v1)), (7, some (vI (0 : Int)))]) (own' := [some (cellsR b_m 72 [vm1, vm2]), some (rowsX u8S true vm2 vsm1 m.b (some (Int.toNat w1.1, vsAt vsm1 (Int.toNat w1.1)))), some (rowS u8S (vsAt vsm1 (Int.toNat w1.1)) row1), some (rowS u8S v1 cloneb1)]) (shr' := [Fact.sl RegionS vm1 m.l]) [6, 7] [0, 1, 2, 3] [0] rfl rfl rfl rfl ?_)
    refine Tk_vs (vs_unfocus0 (i := 1) (q := 2) rfl rfl rfl hx3) ?_
    obtain rfl := Option.some.inj h
    exact Tk_retV rfl rfl (resA (vs := [v1, vI (0 : Int)]) rfl ⟨rfl, rfl, trivial⟩) [0, 1, 3] [] rfl rfl rfl ⟨v1, rfl, rfl, rfl⟩

set_option maxRecDepth 100000 in
set_option maxHeartbeats 4000000 in
theorem w_gmem_Mem_Has {m : gmem_Mem} {atp1 : UInt64} {np2 : UInt64} {b_m : Nat} {vm1 : Value} {vm2 : Value} {vsm1 : List Value} {r : Bool} (h : gmem_Mem_Has m atp1 np2 = some r) :
  Ctr Try.prog 36 #[.pointer (some ⟨b_m, 0, none⟩), vU64 atp1, vU64 np2] [(cellsR b_m 72 [vm1, vm2]), (rowsX u8S true vm2 vsm1 m.b none)] [Fact.sl RegionS vm1 m.l]
   (fun rv own shr => rv = vB r ∧ own = [(cellsR b_m 72 [vm1, vm2]), (rowsX u8S true vm2 vsm1 m.b none)] ∧ shr = []) := by
 unfold gmem_Mem_Has at h
 refine Ctr.mk (args := [.pointer (some ⟨b_m, 0, none⟩), vU64 atp1, vU64 np2]) Try.func36 rfl rfl (fun R0 w0 B => ?_)
 refine Tk_seq (Tk_region (Tops_step rfl (OpT_assign rfl rfl rfl rfl) ?_))
 refine Tops_nil (Tk_wkS (fr' := [(0, some (.pointer (some ⟨b_m, 0, none⟩))), (1, some (vU64 atp1)), (2, some (vU64 np2))]) (own' := [some (cellsR b_m 72 [vm1, vm2]), some (rowsX u8S true vm2 vsm1 m.b none)]) (shr' := [Fact.sl RegionS vm1 m.l]) [0, 1, 2] [0, 1] [0] rfl rfl rfl rfl ?_)
 refine Tk_seq (Tk_region (Tops_step rfl (OpT_move rfl rfl rfl rfl) ?_))
 obtain ⟨made1, hx1, h⟩ := ob_e h
 refine Tops_exP rfl (OpT_callP [2, 3] (w_gmem_Mem_made hx1) [0, 1] [0] rfl rfl rfl rfl rfl callee43 rfl rfl rfl rfl rfl) ?_
 rintro _ ⟨_, _, _, ⟨rfl, rfl, rfl⟩, rfl⟩
 refine Tops_step rfl (OpT_move rfl rfl rfl rfl) ?_
 refine Tops_yes rfl rfl (congrArg (fun b => some (Value.bool b)) (Option.some.inj (show some true = some made1 from hx1)).symm) (OpT_move rfl rfl rfl rfl) ?_
 rintro _ rfl
 refine Tops_yes rfl rfl (congrArg (fun b => some (Value.bool b)) (Option.some.inj (show some true = some made1 from hx1)).symm) (OpT_move rfl rfl rfl rfl) ?_
 rintro _ rfl
 refine Tops_yes rfl rfl (congrArg (fun b => some (Value.bool b)) (Option.some.inj (show some true = some made1 from hx1)).symm) (OpT_move rfl rfl rfl rfl) ?_
 rintro _ rfl
 obtain ⟨bytes1, hx2, h⟩ := ob_e h
 refine Tops_yes rfl rfl (congrArg (fun b => some (Value.bool b)) (Option.some.inj (show some true = some made1 from hx1)).symm) (OpT_callP [2, 3] (w_gmem_Mem_bytes hx2) [0, 1] [0] rfl rfl rfl rfl rfl callee44 rfl rfl rfl rfl rfl) ?_
 rintro _ ⟨_, _, _, ⟨rfl, rfl, rfl⟩, rfl⟩
 rcases onO_cases h with ⟨ho1, h⟩ | ⟨w1, ho1, h⟩
 ·rw [show (winV 1 vsm1 bytes1 : Value) = .slice none 0 0 from by rw [ho1]; rfl]
  refine Tops_yes rfl rfl (congrArg (fun b => some (Value.bool b)) (Option.some.inj (show some true = some made1 from hx1)).symm) (OpT_eqNilN rfl rfl rfl (.inr rfl) rfl rfl Try.underlying73) ?_
  rintro _ rfl
  refine Tops_step rfl (OpT_pickT rfl rfl rfl (congrArg (fun b => some (Value.bool b)) (Option.some.inj (show some true = some made1 from hx1)).symm) rfl) ?_
  refine Tops_step rfl (OpT_assign rfl rfl rfl rfl) ?_
  refine Tops_nil (Tk_wkS (fr' := [(6, some (vB false))]) (own' := [some (cellsR b_m 72 [vm1, vm2]), some (rowsX u8S true vm2 vsm1 m.b none)]) (shr' := [Fact.sl RegionS vm1 m.l]) [6] [0, 1] [0] rfl rfl rfl rfl ?_)
  obtain rfl := Option.some.inj h
  exact Tk_retV rfl rfl (resA (vs := [vB false]) rfl ⟨rfl, trivial⟩) [0, 1] [] rfl rfl rfl ⟨rfl, rfl, rfl⟩
 ·rw [show (winV 1 vsm1 bytes1 : Value) = subV (vsAt vsm1 (Int.toNat w1.1)) 1 (Int.toNat w1.2.1) (Int.toNat w1.2.2) from by rw [ho1]; rfl]
  obtain ⟨row1, hx3, h⟩ := ob_e h
  refine Tops_vs (vs_focus (i := 1) (j := w1.1) rfl hx3) ?_
  obtain ⟨hc1, h⟩ := chk_e h
  obtain ⟨hc2, h⟩ := chk_e h
  refine Tops_yes rfl rfl (congrArg (fun b => some (Value.bool b)) (Option.some.inj (show some true = some made1 from hx1)).symm) (OpT_eqSub (S := u8S) (l := w1.2.1) (m := w1.2.2) rfl rfl rfl (.inr rfl) rfl rfl Try.underlying73 (i := 2) rfl hc1 hc2) ?_
  rintro _ rfl
  refine Tops_step rfl (OpT_pickT rfl rfl rfl (congrArg (fun b => some (Value.bool b)) (Option.some.inj (show some true = some made1 from hx1)).symm) rfl) ?_
  refine Tops_step rfl (OpT_assign rfl rfl rfl rfl) ?_
  refine Tops_nil (Tk_wkS (fr' := [(6, some (vB true))]) (own' := [some (cellsR b_m 72 [vm1, vm2]), some (rowsX u8S true vm2 vsm1 m.b (some (Int.toNat w1.1, vsAt vsm1 (Int.toNat w1.1)))), some (rowS u8S (vsAt vsm1 (Int.toNat w1.1)) row1)]) (shr' := [Fact.sl RegionS vm1 m.l]) [6] [0, 1, 2] [0] rfl rfl rfl rfl ?_)
  refine Tk_vs (vs_unfocus0 (i := 1) (q := 2) rfl rfl rfl hx3) ?_
  obtain rfl := Option.some.inj h
  exact Tk_retV rfl rfl (resA (vs := [vB true]) rfl ⟨rfl, trivial⟩) [0, 1] [] rfl rfl rfl ⟨rfl, rfl, rfl⟩

set_option maxRecDepth 100000 in
set_option maxHeartbeats 4000000 in
theorem w_layout_Fits {m : gmem_Mem} {rp1 : Rings} {b_m : Nat} {vm1 : Value} {vm2 : Value} {vsm1 : List Value} {r : Int} (h : layout_Fits m rp1 = some r) :
  Ctr Try.prog 17 #[.pointer (some ⟨b_m, 0, none⟩), .agg #[vB rp1.Packed, vI rp1.Size, vU64 rp1.Desc, vU64 rp1.Driver, vU64 rp1.Device]] [(cellsR b_m 72 [vm1, vm2]), (rowsX u8S true vm2 vsm1 m.b none)] [Fact.sl RegionS vm1 m.l]
   (fun rv own shr => rv = vI r ∧ own = [(cellsR b_m 72 [vm1, vm2]), (rowsX u8S true vm2 vsm1 m.b none)] ∧ shr = []) := by
 unfold layout_Fits at h
 refine Ctr.mk (args := [.pointer (some ⟨b_m, 0, none⟩), .agg #[vB rp1.Packed, vI rp1.Size, vU64 rp1.Desc, vU64 rp1.Driver, vU64 rp1.Device]]) Try.func17 rfl rfl (fun R0 w0 B => ?_)
 refine Tk_seq (Tk_region (Tops_ex rfl (OpT_box rfl rfl rfl rfl) fun b1 => ?_))
 refine Tops_step rfl (OpT_assign rfl rfl rfl rfl) ?_
 refine Tops_nil (Tk_wkS (fr' := [(0, some (.pointer (some ⟨b_m, 0, none⟩))), (3, some (.pointer (some ⟨b1, 0, none⟩)))]) (own' := [some (cellsR b_m 72 [vm1, vm2]), some (rowsX u8S true vm2 vsm1 m.b none), some (cellsR b1 27 [vB rp1.Packed, vI rp1.Size, vU64 rp1.Desc, vU64 rp1.Driver, vU64 rp1.Device])]) (shr' := [Fact.sl RegionS vm1 m.l]) [0, 3] [0, 1, 2] [0] rfl rfl rfl rfl ?_)
 refine Tk_seq (Tk_seq (Tk_region (Tops_step rfl (OpT_move rfl rfl rfl rfl) ?_)))
 obtain ⟨read1, hx1, h⟩ := ob_e h
 refine Tops_exP rfl (OpT_callP [3, 4, 2, 5] (w_gmem_Mem_Read hx1) [0, 1] [0] rfl rfl rfl rfl rfl callee35 rfl rfl rfl rfl rfl) ?_
 rintro _ ⟨_, _, _, ⟨v1, rfl, rfl, rfl⟩, rfl⟩
 refine Tops_step rfl (OpT_move rfl rfl rfl rfl) ?_
 refine Tops_step rfl (OpT_extract rfl rfl rfl rfl rfl) ?_
 refine Tops_step rfl (OpT_extract rfl rfl rfl rfl rfl) ?_
 refine Tops_step rfl (OpT_assign rfl rfl rfl rfl) ?_
 refine Tops_step rfl (OpT_assign rfl rfl rfl rfl) ?_
 refine Tops_nil (Tk_wkS (fr' := [(0, some (.pointer (some ⟨b_m, 0, none⟩))), (3, some (.pointer (some ⟨b1, 0, none⟩))), (6, some (vI read1.2))]) (own' := [some (cellsR b_m 72 [vm1, vm2]), some (rowsX u8S true vm2 vsm1 m.b none), some (cellsR b1 27 [vB rp1.Packed, vI rp1.Size, vU64 rp1.Desc, vU64 rp1.Driver, vU64 rp1.Device])]) (shr' := [Fact.sl RegionS vm1 m.l]) [0, 3, 6] [0, 1, 2] [0] rfl rfl rfl rfl ?_)
 refine Tk_seq (Tk_region (Tops_step rfl (OpT_move rfl rfl rfl rfl) ?_))
 refine Tops_step rfl (OpT_bin rfl rfl rfl rfl rfl (bin_eql_i (a := read1.2) (b := (1 : Int)))) ?_
 refine Tops_nil (Tk_wkS (fr' := [(0, some (.pointer (some ⟨b_m, 0, none⟩))), (3, some (.pointer (some ⟨b1, 0, none⟩))), (6, some (vI read1.2)), (16, some (vB (read1.2 == (1 : Int))))]) (own' := [some (cellsR b_m 72 [vm1, vm2]), some (rowsX u8S true vm2 vsm1 m.b none), some (cellsR b1 27 [vB rp1.Packed, vI rp1.Size, vU64 rp1.Desc, vU64 rp1.Driver, vU64 rp1.Device])]) (shr' := [Fact.sl RegionS vm1 m.l]) [0, 3, 6, 16] [0, 1, 2] [0] rfl rfl rfl rfl ?_)
 rcases Bool.eq_false_or_eq_true (read1.2 == (1 : Int)) with hg1 | hg1
 ·replace h := br_t hg1 h
  refine Tk_condT (congrArg (fun b => some (Value.bool b)) hg1) ?_
  refine Tk_seq (Tk_region (Tops_step rfl (OpT_move rfl rfl rfl rfl) ?_))
  refine Tops_step rfl (OpT_assign rfl rfl rfl rfl) ?_
  refine Tops_nil (Tk_wkS (fr' := [(4, some (vI read1.2))]) (own' := [some (cellsR b_m 72 [vm1, vm2]), some (rowsX u8S true vm2 vsm1 m.b none)]) (shr' := [Fact.sl RegionS vm1 m.l]) [4] [0, 1] [0] rfl rfl rfl rfl ?_)
  obtain rfl := Option.some.inj h
  exact Tk_retV rfl rfl (resA (vs := [vI read1.2]) rfl ⟨rfl, trivial⟩) [0, 1] [] rfl rfl rfl ⟨rfl, rfl, rfl⟩
 ·replace h := br_f hg1 h
  refine Tk_condF (congrArg (fun b => some (Value.bool b)) hg1) ?_
  refine Tk_skip (Tk_seq (Tk_seq (Tk_region (Tops_step rfl (OpT_loadCA (vs := [vB rp1.Packed, vI rp1.Size, vU64 rp1.Desc, vU64 rp1.Driver, vU64 rp1.Device]) rfl rfl rfl rfl tyF27 (i := 2) rfl rfl rfl) ?_))))
  obtain ⟨check1, hx2, h⟩ := ob_e h
  refine Tops_exP rfl (OpT_call (w_layout_Check hx2) [] [] rfl rfl rfl rfl rfl callee13 rfl rfl rfl rfl) ?_
  rintro _ ⟨_, _, _, ⟨rfl, rfl, rfl⟩, rfl⟩
  refine Tops_step rfl (OpT_assign rfl rfl rfl rfl) ?_
  refine Tops_nil (Tk_wkS (fr' := [(0, some (.pointer (some ⟨b_m, 0, none⟩))), (3, some (.pointer (some ⟨b1, 0, none⟩))), (7, some (vI check1))]) (own' := [some (cellsR b_m 72 [vm1, vm2]), some (rowsX u8S true vm2 vsm1 m.b none), some (cellsR b1 27 [vB rp1.Packed, vI rp1.Size, vU64 rp1.Desc, vU64 rp1.Driver, vU64 rp1.Device])]) (shr' := [Fact.sl RegionS vm1 m.l]) [0, 3, 7] [0, 1, 2] [0] rfl rfl rfl rfl ?_)
  refine Tk_seq (Tk_region (Tops_step rfl (OpT_move rfl rfl rfl rfl) ?_))
  refine Tops_step rfl (OpT_bin rfl rfl rfl rfl rfl (bin_neq_i (a := check1) (b := (0 : Int)))) ?_
  refine Tops_nil (Tk_wkS (fr' := [(0, some (.pointer (some ⟨b_m, 0, none⟩))), (3, some (.pointer (some ⟨b1, 0, none⟩))), (7, some (vI check1)), (21, some (vB (check1 != (0 : Int))))]) (own' := [some (cellsR b_m 72 [vm1, vm2]), some (rowsX u8S true vm2 vsm1 m.b none), some (cellsR b1 27 [vB rp1.Packed, vI rp1.Size, vU64 rp1.Desc, vU64 rp1.Driver, vU64 rp1.Device])]) (shr' := [Fact.sl RegionS vm1 m.l]) [0, 3, 7, 21] [0, 1, 2] [0] rfl rfl rfl rfl ?_)
  rcases Bool.eq_false_or_eq_true (check1 != (0 : Int)) with hg2 | hg2
  ·replace h := br_t hg2 h
   refine Tk_condT (congrArg (fun b => some (Value.bool b)) hg2) ?_
   refine Tk_seq (Tk_region (Tops_step rfl (OpT_move rfl rfl rfl rfl) ?_))
   refine Tops_step rfl (OpT_assign rfl rfl rfl rfl) ?_
   refine Tops_nil (Tk_wkS (fr' := [(4, some (vI check1))]) (own' := [some (cellsR b_m 72 [vm1, vm2]), some (rowsX u8S true vm2 vsm1 m.b none)]) (shr' := [Fact.sl RegionS vm1 m.l]) [4] [0, 1] [0] rfl rfl rfl rfl ?_)
   obtain rfl := Option.some.inj h
   exact Tk_retV rfl rfl (resA (vs := [vI check1]) rfl ⟨rfl, trivial⟩) [0, 1] [] rfl rfl rfl ⟨rfl, rfl, rfl⟩
  ·replace h := br_f hg2 h
   refine Tk_condF (congrArg (fun b => some (Value.bool b)) hg2) ?_
   refine Tk_skip (Tk_seq (Tk_seq (Tk_region (Tops_step rfl (OpT_loadCA (vs := [vB rp1.Packed, vI rp1.Size, vU64 rp1.Desc, vU64 rp1.Driver, vU64 rp1.Device]) rfl rfl rfl rfl tyF27 (i := 2) rfl rfl rfl) ?_))))
   obtain ⟨spans1, hx3, h⟩ := ob_e h
   refine Tops_exP rfl (OpT_call (w_layout_spans hx3) [] [] rfl rfl rfl rfl rfl callee29 rfl rfl rfl rfl) ?_
   rintro _ ⟨_, _, _, ⟨rfl, rfl, rfl⟩, rfl⟩
   refine Tops_step rfl (OpT_move rfl rfl rfl rfl) ?_
   refine Tops_nil (Tk_wkS (fr' := [(0, some (.pointer (some ⟨b_m, 0, none⟩))), (24, some (.agg #[vU64 spans1.a0.a0, vU64 spans1.a0.a1, vU64 spans1.a1.a0, vU64 spans1.a1.a1, vU64 spans1.a2.a0, vU64 spans1.a2.a1])), (25, some (vI (0 : Int)))]) (own' := [some (cellsR b_m 72 [vm1, vm2]), some (rowsX u8S true vm2 vsm1 m.b none)]) (shr' := [Fact.sl RegionS vm1 m.l]) [0, 24, 25] [0, 1] [0] rfl rfl rfl rfl ?_)
   refine Tk_block (Tk_unroll 3 ?_)
   refine Tk_seq (Tk_region (Tops_step rfl (OpT_bin rfl rfl rfl rfl rfl (bin_lss_i (a := (0 : Int)) (b := (3 : Int)))) ?_))
   refine Tops_nil (Tk_seq (Tk_condT rfl ?_))
   refine Tk_skip (Tk_seq (Tk_block (Tk_seq (Tk_region (Tops_step rfl (OpT_idxKA (cs := [vU64 spans1.a0.a0, vU64 spans1.a0.a1, vU64 spans1.a1.a0, vU64 spans1.a1.a1, vU64 spans1.a2.a0, vU64 spans1.a2.a1]) (vs := [vU64 spans1.a0.a0, vU64 spans1.a0.a1]) rfl rfl rfl rfl rfl arrF59 tyF58 (by decide) rfl) ?_)))))
   refine Tops_ex rfl (OpT_alloc rfl rfl rfl tyZ58) fun b2 => ?_
   refine Tops_step rfl (OpT_storeC (cs' := [vU64 spans1.a0.a0, vU64 spans1.a0.a1]) rfl rfl rfl rfl tyF58 (i := 2) rfl rfl rfl (one_of rfl) rfl) ?_
   refine Tops_nil (Tk_wkS (fr' := [(0, some (.pointer (some ⟨b_m, 0, none⟩))), (24, some (.agg #[vU64 spans1.a0.a0, vU64 spans1.a0.a1, vU64 spans1.a1.a0, vU64 spans1.a1.a1, vU64 spans1.a2.a0, vU64 spans1.a2.a1])), (25, some (vI (0 : Int))), (9, some (.pointer (some ⟨b2, 0, none⟩)))]) (own' := [some (cellsR b_m 72 [vm1, vm2]), some (rowsX u8S true vm2 vsm1 m.b none), some (cellsR b2 58 [vU64 spans1.a0.a0, vU64 spans1.a0.a1])]) (shr' := [Fact.sl RegionS vm1 m.l]) [0, 24, 25, 9] [0, 1, 2] [0] rfl rfl rfl rfl ?_)
   refine Tk_seq (Tk_region (Tops_step rfl (OpT_move rfl rfl rfl rfl) ?_))
   refine Tops_step rfl (OpT_indexC rfl rfl rfl rfl rfl arrF58 (by decide)) ?_
   refine Tops_step rfl (OpT_loadC rfl rfl rfl rfl tyF22 (i := 2) rfl rfl) ?_
   refine Tops_step rfl (OpT_indexC rfl rfl rfl rfl rfl arrF58 (by decide)) ?_
   refine Tops_step rfl (OpT_loadC rfl rfl rfl rfl tyF22 (i := 2) rfl rfl) ?_
   obtain ⟨has1, hx4, h⟩ := ob_e h
   refine Tops_exP rfl (OpT_callP [3, 4, 2] (w_gmem_Mem_Has hx4) [0, 1] [0] rfl rfl rfl rfl rfl callee36 rfl rfl rfl rfl rfl) ?_
   rintro _ ⟨_, _, _, ⟨rfl, rfl, rfl⟩, rfl⟩
   refine Tops_step rfl (OpT_not rfl rfl rfl rfl) ?_
   refine Tops_nil (Tk_wkS (fr' := [(0, some (.pointer (some ⟨b_m, 0, none⟩))), (24, some (.agg #[vU64 spans1.a0.a0, vU64 spans1.a0.a1, vU64 spans1.a1.a0, vU64 spans1.a1.a1, vU64 spans1.a2.a0, vU64 spans1.a2.a1])), (25, some (vI (0 : Int))), (34, some (vB (!has1)))]) (own' := [some (cellsR b_m 72 [vm1, vm2]), some (rowsX u8S true vm2 vsm1 m.b none)]) (shr' := [Fact.sl RegionS vm1 m.l]) [0, 24, 25, 34] [0, 1] [0] rfl rfl rfl rfl ?_)
   rcases Bool.eq_false_or_eq_true ((!has1)) with hg3 | hg3
   ·replace h := br_t hg3 h
    refine Tk_condT (congrArg (fun b => some (Value.bool b)) hg3) ?_
    refine Tk_seq (Tk_region (Tops_step rfl (OpT_assign rfl rfl rfl rfl) ?_))
    refine Tops_nil (Tk_wkS (fr' := [(4, some (vI (5 : Int)))]) (own' := [some (cellsR b_m 72 [vm1, vm2]), some (rowsX u8S true vm2 vsm1 m.b none)]) (shr' := [Fact.sl RegionS vm1 m.l]) [4] [0, 1] [0] rfl rfl rfl rfl ?_)
    obtain rfl := Option.some.inj h
    exact Tk_retV rfl rfl (resA (vs := [vI (5 : Int)]) rfl ⟨rfl, trivial⟩) [0, 1] [] rfl rfl rfl ⟨rfl, rfl, rfl⟩
   ·replace h := br_f hg3 h
    refine Tk_condF (congrArg (fun b => some (Value.bool b)) hg3) ?_
    refine Tk_skip (Tk_blk (Tk_region (Tops_step rfl (OpT_bin rfl rfl rfl rfl rfl (bin_add_i (a := (0 : Int)) (b := (1 : Int)))) ?_)))
    refine Tops_step rfl (OpT_move rfl rfl rfl rfl) ?_
    refine Tops_nil (Tk_wkS (fr' := [(0, some (.pointer (some ⟨b_m, 0, none⟩))), (24, some (.agg #[vU64 spans1.a0.a0, vU64 spans1.a0.a1, vU64 spans1.a1.a0, vU64 spans1.a1.a1, vU64 spans1.a2.a0, vU64 spans1.a2.a1])), (25, some (vI (1 : Int)))]) (own' := [some (cellsR b_m 72 [vm1, vm2]), some (rowsX u8S true vm2 vsm1 m.b none)]) (shr' := [Fact.sl RegionS vm1 m.l]) [0, 24, 25] [0, 1] [0] rfl rfl rfl rfl ?_)
    refine Tk_round ?_
    refine Tk_seq (Tk_region (Tops_step rfl (OpT_bin rfl rfl rfl rfl rfl (bin_lss_i (a := (1 : Int)) (b := (3 : Int)))) ?_))
    refine Tops_nil (Tk_seq (Tk_condT rfl ?_))
    refine Tk_skip (Tk_seq (Tk_block (Tk_seq (Tk_region (Tops_step rfl (OpT_idxKA (cs := [vU64 spans1.a0.a0, vU64 spans1.a0.a1, vU64 spans1.a1.a0, vU64 spans1.a1.a1, vU64 spans1.a2.a0, vU64 spans1.a2.a1]) (vs := [vU64 spans1.a1.a0, vU64 spans1.a1.a1]) rfl rfl rfl rfl rfl arrF59 tyF58 (by decide) rfl) ?_)))))
    refine Tops_ex rfl (OpT_alloc rfl rfl rfl tyZ58) fun b3 => ?_
    refine Tops_step rfl (OpT_storeC (cs' := [vU64 spans1.a1.a0, vU64 spans1.a1.a1]) rfl rfl rfl rfl tyF58 (i := 2) rfl rfl rfl (one_of rfl) rfl) ?_
    refine Tops_nil (Tk_wkS (fr' := [(0, some (.pointer (some ⟨b_m, 0, none⟩))), (24, some (.agg #[vU64 spans1.a0.a0, vU64 spans1.a0.a1, vU64 spans1.a1.a0, vU64 spans1.a1.a1, vU64 spans1.a2.a0, vU64 spans1.a2.a1])), (25, some (vI (1 : Int))), (9, some (.pointer (some ⟨b3, 0, none⟩)))]) (own' := [some (cellsR b_m 72 [vm1, vm2]), some (rowsX u8S true vm2 vsm1 m.b none), some (cellsR b3 58 [vU64 spans1.a1.a0, vU64 spans1.a1.a1])]) (shr' := [Fact.sl RegionS vm1 m.l]) [0, 24, 25, 9] [0, 1, 2] [0] rfl rfl rfl rfl ?_)
    refine Tk_seq (Tk_region (Tops_step rfl (OpT_move rfl rfl rfl rfl) ?_))
    refine Tops_step rfl (OpT_indexC rfl rfl rfl rfl rfl arrF58 (by decide)) ?_
    refine Tops_step rfl (OpT_loadC rfl rfl rfl rfl tyF22 (i := 2) rfl rfl) ?_
    refine Tops_step rfl (OpT_indexC rfl rfl rfl rfl rfl arrF58 (by decide)) ?_
    refine Tops_step rfl (OpT_loadC rfl rfl rfl rfl tyF22 (i := 2) rfl rfl) ?_
    obtain ⟨has2, hx5, h⟩ := ob_e h
    refine Tops_exP rfl (OpT_callP [3, 4, 2] (w_gmem_Mem_Has hx5) [0, 1] [0] rfl rfl rfl rfl rfl callee36 rfl rfl rfl rfl rfl) ?_
    rintro _ ⟨_, _, _, ⟨rfl, rfl, rfl⟩, rfl⟩
    refine Tops_step rfl (OpT_not rfl rfl rfl rfl) ?_
    refine Tops_nil (Tk_wkS (fr' := [(0, some (.pointer (some ⟨b_m, 0, none⟩))), (24, some (.agg #[vU64 spans1.a0.a0, vU64 spans1.a0.a1, vU64 spans1.a1.a0, vU64 spans1.a1.a1, vU64 spans1.a2.a0, vU64 spans1.a2.a1])), (25, some (vI (1 : Int))), (34, some (vB (!has2)))]) (own' := [some (cellsR b_m 72 [vm1, vm2]), some (rowsX u8S true vm2 vsm1 m.b none)]) (shr' := [Fact.sl RegionS vm1 m.l]) [0, 24, 25, 34] [0, 1] [0] rfl rfl rfl rfl ?_)
    rcases Bool.eq_false_or_eq_true ((!has2)) with hg4 | hg4
    ·replace h := br_t hg4 h
     refine Tk_condT (congrArg (fun b => some (Value.bool b)) hg4) ?_
     refine Tk_seq (Tk_region (Tops_step rfl (OpT_assign rfl rfl rfl rfl) ?_))
     refine Tops_nil (Tk_wkS (fr' := [(4, some (vI (5 : Int)))]) (own' := [some (cellsR b_m 72 [vm1, vm2]), some (rowsX u8S true vm2 vsm1 m.b none)]) (shr' := [Fact.sl RegionS vm1 m.l]) [4] [0, 1] [0] rfl rfl rfl rfl ?_)
     obtain rfl := Option.some.inj h
     exact Tk_retV rfl rfl (resA (vs := [vI (5 : Int)]) rfl ⟨rfl, trivial⟩) [0, 1] [] rfl rfl rfl ⟨rfl, rfl, rfl⟩
    ·replace h := br_f hg4 h
     refine Tk_condF (congrArg (fun b => some (Value.bool b)) hg4) ?_
     refine Tk_skip (Tk_blk (Tk_region (Tops_step rfl (OpT_bin rfl rfl rfl rfl rfl (bin_add_i (a := (1 : Int)) (b := (1 : Int)))) ?_)))
     refine Tops_step rfl (OpT_move rfl rfl rfl rfl) ?_
     refine Tops_nil (Tk_wkS (fr' := [(0, some (.pointer (some ⟨b_m, 0, none⟩))), (24, some (.agg #[vU64 spans1.a0.a0, vU64 spans1.a0.a1, vU64 spans1.a1.a0, vU64 spans1.a1.a1, vU64 spans1.a2.a0, vU64 spans1.a2.a1])), (25, some (vI (2 : Int)))]) (own' := [some (cellsR b_m 72 [vm1, vm2]), some (rowsX u8S true vm2 vsm1 m.b none)]) (shr' := [Fact.sl RegionS vm1 m.l]) [0, 24, 25] [0, 1] [0] rfl rfl rfl rfl ?_)
     refine Tk_round ?_
     refine Tk_seq (Tk_region (Tops_step rfl (OpT_bin rfl rfl rfl rfl rfl (bin_lss_i (a := (2 : Int)) (b := (3 : Int)))) ?_))
     refine Tops_nil (Tk_seq (Tk_condT rfl ?_))
     refine Tk_skip (Tk_seq (Tk_block (Tk_seq (Tk_region (Tops_step rfl (OpT_idxKA (cs := [vU64 spans1.a0.a0, vU64 spans1.a0.a1, vU64 spans1.a1.a0, vU64 spans1.a1.a1, vU64 spans1.a2.a0, vU64 spans1.a2.a1]) (vs := [vU64 spans1.a2.a0, vU64 spans1.a2.a1]) rfl rfl rfl rfl rfl arrF59 tyF58 (by decide) rfl) ?_)))))
     refine Tops_ex rfl (OpT_alloc rfl rfl rfl tyZ58) fun b4 => ?_
     refine Tops_step rfl (OpT_storeC (cs' := [vU64 spans1.a2.a0, vU64 spans1.a2.a1]) rfl rfl rfl rfl tyF58 (i := 2) rfl rfl rfl (one_of rfl) rfl) ?_
     refine Tops_nil (Tk_wkS (fr' := [(0, some (.pointer (some ⟨b_m, 0, none⟩))), (24, some (.agg #[vU64 spans1.a0.a0, vU64 spans1.a0.a1, vU64 spans1.a1.a0, vU64 spans1.a1.a1, vU64 spans1.a2.a0, vU64 spans1.a2.a1])), (25, some (vI (2 : Int))), (9, some (.pointer (some ⟨b4, 0, none⟩)))]) (own' := [some (cellsR b_m 72 [vm1, vm2]), some (rowsX u8S true vm2 vsm1 m.b none), some (cellsR b4 58 [vU64 spans1.a2.a0, vU64 spans1.a2.a1])]) (shr' := [Fact.sl RegionS vm1 m.l]) [0, 24, 25, 9] [0, 1, 2] [0] rfl rfl rfl rfl ?_)
     refine Tk_seq (Tk_region (Tops_step rfl (OpT_move rfl rfl rfl rfl) ?_))
     refine Tops_step rfl (OpT_indexC rfl rfl rfl rfl rfl arrF58 (by decide)) ?_
     refine Tops_step rfl (OpT_loadC rfl rfl rfl rfl tyF22 (i := 2) rfl rfl) ?_
     refine Tops_step rfl (OpT_indexC rfl rfl rfl rfl rfl arrF58 (by decide)) ?_
     refine Tops_step rfl (OpT_loadC rfl rfl rfl rfl tyF22 (i := 2) rfl rfl) ?_
     obtain ⟨has3, hx6, h⟩ := ob_e h
     refine Tops_exP rfl (OpT_callP [3, 4, 2] (w_gmem_Mem_Has hx6) [0, 1] [0] rfl rfl rfl rfl rfl callee36 rfl rfl rfl rfl rfl) ?_
     rintro _ ⟨_, _, _, ⟨rfl, rfl, rfl⟩, rfl⟩
     refine Tops_step rfl (OpT_not rfl rfl rfl rfl) ?_
     refine Tops_nil (Tk_wkS (fr' := [(0, some (.pointer (some ⟨b_m, 0, none⟩))), (24, some (.agg #[vU64 spans1.a0.a0, vU64 spans1.a0.a1, vU64 spans1.a1.a0, vU64 spans1.a1.a1, vU64 spans1.a2.a0, vU64 spans1.a2.a1])), (25, some (vI (2 : Int))), (34, some (vB (!has3)))]) (own' := [some (cellsR b_m 72 [vm1, vm2]), some (rowsX u8S true vm2 vsm1 m.b none)]) (shr' := [Fact.sl RegionS vm1 m.l]) [0, 24, 25, 34] [0, 1] [0] rfl rfl rfl rfl ?_)
     rcases Bool.eq_false_or_eq_true ((!has3)) with hg5 | hg5
     ·replace h := br_t hg5 h
      refine Tk_condT (congrArg (fun b => some (Value.bool b)) hg5) ?_
      refine Tk_seq (Tk_region (Tops_step rfl (OpT_assign rfl rfl rfl rfl) ?_))
      refine Tops_nil (Tk_wkS (fr' := [(4, some (vI (5 : Int)))]) (own' := [some (cellsR b_m 72 [vm1, vm2]), some (rowsX u8S true vm2 vsm1 m.b none)]) (shr' := [Fact.sl RegionS vm1 m.l]) [4] [0, 1] [0] rfl rfl rfl rfl ?_)
      obtain rfl := Option.some.inj h
      exact Tk_retV rfl rfl (resA (vs := [vI (5 : Int)]) rfl ⟨rfl, trivial⟩) [0, 1] [] rfl rfl rfl ⟨rfl, rfl, rfl⟩
     ·replace h := br_f hg5 h
      refine Tk_condF (congrArg (fun b => some (Value.bool b)) hg5) ?_
      refine Tk_skip (Tk_blk (Tk_region (Tops_step rfl (OpT_bin rfl rfl rfl rfl rfl (bin_add_i (a := (2 : Int)) (b := (1 : Int)))) ?_)))
      refine Tops_step rfl (OpT_move rfl rfl rfl rfl) ?_
      refine Tops_nil (Tk_wkS (fr' := [(0, some (.pointer (some ⟨b_m, 0, none⟩))), (24, some (.agg #[vU64 spans1.a0.a0, vU64 spans1.a0.a1, vU64 spans1.a1.a0, vU64 spans1.a1.a1, vU64 spans1.a2.a0, vU64 spans1.a2.a1])), (25, some (vI (3 : Int)))]) (own' := [some (cellsR b_m 72 [vm1, vm2]), some (rowsX u8S true vm2 vsm1 m.b none)]) (shr' := [Fact.sl RegionS vm1 m.l]) [0, 24, 25] [0, 1] [0] rfl rfl rfl rfl ?_)
      refine Tk_round ?_
      refine Tk_seq (Tk_region (Tops_step rfl (OpT_bin rfl rfl rfl rfl rfl (bin_lss_i (a := (3 : Int)) (b := (3 : Int)))) ?_))
      refine Tops_nil (Tk_seq (Tk_condF rfl ?_))
      refine Tk_exit _ rfl ?_
      refine Tk_seq (Tk_region (Tops_step rfl (OpT_assign rfl rfl rfl rfl) ?_))
      refine Tops_nil (Tk_wkS (fr' := [(4, some (vI (0 : Int)))]) (own' := [some (cellsR b_m 72 [vm1, vm2]), some (rowsX u8S true vm2 vsm1 m.b none)]) (shr' := [Fact.sl RegionS vm1 m.l]) [4] [0, 1] [0] rfl rfl rfl rfl ?_)
      obtain rfl := Option.some.inj h
      exact Tk_retV rfl rfl (resA (vs := [vI (0 : Int)]) rfl ⟨rfl, trivial⟩) [0, 1] [] rfl rfl rfl ⟨rfl, rfl, rfl⟩

end Go.Proofs.Ytbeendakebamhaa
