/- The functions do what the plain words say: each is walked once. No statement of the seat is proved here; no condition. -/
import Derived.Test.YtkmjpgfbcklopaaWa4
namespace Go.Proofs.Ytkmjpgfbcklopaa
attribute [local irreducible] sub
theorem ws_blkdrv_Cut {l : List Seg} {cuts : List Int} {vl1 : Value} {vcuts1 : Value} {r : (List Seg)} (h : blkdrv_Cut l cuts = some r) :
  Ctr Try.prog 9 #[vl1, vcuts1] [] [Fact.sl SegS vl1 l, Fact.sl iS vcuts1 cuts]
   (fun rv own shr => ∃ (w1 : Value), rv = w1 ∧ own = [] ∧ shr = [Fact.sl SegS w1 r]) :=
 Ctr.sh (w_blkdrv_Cut h) (by rintro w1 _ _ ⟨_, rfl, rfl, rfl⟩; exact ⟨[], _, _, _, _, rfl, w1, rfl, rfl, rfl⟩)

theorem ws_blkdrv_Config {np0 : Int} {r : (List UInt8)} (h : blkdrv_Config np0 = some r) :
  Ctr Try.prog 25 #[vI np0] [] []
   (fun rv own shr => ∃ (w1 : Value), rv = w1 ∧ own = [] ∧ shr = [Fact.sl u8S w1 r]) :=
 Ctr.sh (w_blkdrv_Config h) (by rintro w1 _ _ ⟨_, rfl, rfl, rfl⟩; exact ⟨[], _, _, _, _, rfl, w1, rfl, rfl, rfl⟩)

set_option maxRecDepth 100000 in
set_option maxHeartbeats 4000000 in
theorem w_ref_Config22 {np0 : Int} {r : (List UInt8)} (h : ref_Config22 np0 = some r) :
  Ctr Try.prog 33 #[vI np0] [] []
   (fun rv own shr => ∃ (w1 : Value), rv = w1 ∧ own = [(rowS u8S w1 r)] ∧ shr = []) := by
 unfold ref_Config22 at h
 refine Ctr.mk (args := [vI np0]) Try.func33 rfl rfl (fun R0 w0 B => ?_)
 refine Tk_seq (Tk_region (Tops_step rfl (OpT_assign rfl rfl rfl rfl) ?_))
 refine Tops_nil (Tk_wkS (fr' := [(0, some (vI np0))]) (own' := []) (shr' := []) [0] [] [] rfl rfl rfl rfl ?_)
 refine Tk_seq (Tk_region (Tops_step rfl (OpT_move rfl rfl rfl rfl) ?_))
 refine Tops_step rfl (OpT_max_i (u := (0 : Int)) (v := np0) rfl rfl rfl rfl rfl) ?_
 refine Tops_step rfl (OpT_cnv rfl rfl rfl rfl (cnv_i_u64 (n := maxi (0 : Int) np0) Try.underlying3 Try.underlying29)) ?_
 refine Tops_step rfl (OpT_assign rfl rfl rfl rfl) ?_
 refine Tops_nil (Tk_wkS (fr' := [(3, some (vU64 (u64 (maxi (0 : Int) np0))))]) (own' := []) (shr' := []) [3] [] [] rfl rfl rfl rfl ?_)
 refine Tk_seq (Tk_region (Tops_step rfl (OpT_assign rfl rfl rfl rfl) ?_))
 refine Tops_nil (Tk_seq (Tk_seq (Tk_region (Tops_step rfl (OpT_assign rfl rfl rfl rfl) ?_))))
 refine Tops_nil (Tk_block (Tk_nilrow u8S ?_))
 refine Tk_loopS (σ := (List UInt8) × Int × Value) [3, 4, 5] [0] [] (fun s => ⟨[(3, some (vU64 (u64 (maxi (0 : Int) np0)))), (4, some (s.2.2)), (5, some (vI s.2.1))], [some (rowS u8S s.2.2 s.1)], []⟩) (fun nf1 s => ref_Config22L1 np0 nf1 s.1 s.2.1 = some r) fuel ([], (0 : Int), (.slice none 0 0)) h rfl rfl rfl rfl rfl (fun s h => by cases h) ?_
 rintro nf1 ⟨b1, i1, v1⟩ h
 replace h : ref_Config22L1B np0 (ref_Config22L1 np0 nf1) b1 i1 = some r := h
 unfold ref_Config22L1B at h
 refine Tk_seq (Tk_seq (Tk_region (Tops_step rfl (OpT_move rfl rfl rfl rfl) ?_)))
 refine Tops_step rfl (OpT_bin rfl rfl rfl rfl rfl (bin_lss_i (a := i1) (b := (8 : Int)))) ?_
 refine Tops_nil (Tk_wkS (fr' := [(3, some (vU64 (u64 (maxi (0 : Int) np0)))), (4, some (v1)), (5, some (vI i1)), (10, some (vB (decide (i1 < (8 : Int)))))]) (own' := [some (rowS u8S v1 b1)]) (shr' := []) [3, 4, 5, 10] [0] [] rfl rfl rfl rfl ?_)
 rcases Bool.eq_false_or_eq_true (decide (i1 < (8 : Int))) with hg1 | hg1
 ·replace h := br_t hg1 h
  refine Tk_condT (congrArg (fun b => some (Value.bool b)) hg1) ?_
  refine Tk_skip (Tk_seq (Tk_block (Tk_region (Tops_step rfl (OpT_move rfl rfl rfl rfl) ?_))))
  refine Tops_step rfl (OpT_move rfl rfl rfl rfl) ?_
  refine Tops_step rfl (OpT_move rfl rfl rfl rfl) ?_
  refine Tops_step rfl (OpT_bin rfl rfl rfl rfl rfl (bin_mul_i (a := (8 : Int)) (b := i1))) ?_
  refine Tops_step rfl (OpT_cnv rfl rfl rfl rfl (cnv_i_u64 (n := wi ((8 : Int) * i1)) Try.underlying3 Try.underlying95)) ?_
  refine Tops_step rfl (OpT_bin rfl rfl rfl rfl rfl (bin_shr_u64_u64 (a := u64 (maxi (0 : Int) np0)) (n := u64 (wi ((8 : Int) * i1))))) ?_
  refine Tops_step rfl (OpT_cnv rfl rfl rfl rfl (cnv_u64_u8 (n := shr64 (u64 (maxi (0 : Int) np0)) ((u64 (wi ((8 : Int) * i1))).toNat)) Try.underlying29 Try.underlying5)) ?_
  refine Tops_ex rfl (OpT_buildSlice (S := u8S) (xs := [(shr64 (u64 (maxi (0 : Int) np0)) ((u64 (wi ((8 : Int) * i1))).toNat)).toUInt8]) (css := [[vU8 ((shr64 (u64 (maxi (0 : Int) np0)) ((u64 (wi ((8 : Int) * i1))).toNat)).toUInt8)]]) (cs := [vU8 ((shr64 (u64 (maxi (0 : Int) np0)) ((u64 (wi ((8 : Int) * i1))).toNat)).toUInt8)]) (e := 5) rfl rfl rfl rfl (bldF slF35 (by decide) (by kernel_rfl)) rfl rfl rfl rfl (rel_plainD (S := u8S) (xs := [(shr64 (u64 (maxi (0 : Int) np0)) ((u64 (wi ((8 : Int) * i1))).toNat)).toUInt8]) (css := [[vU8 ((shr64 (u64 (maxi (0 : Int) np0)) ((u64 (wi ((8 : Int) * i1))).toNat)).toUInt8)]]) rfl rfl)) fun v2 => ?_
  obtain ⟨hc1, h⟩ := chk_e h
  refine Tops_ex rfl (OpT_appendB (S := u8S) rfl rfl rfl rfl rfl rfl slF35 (i := 0) (j := 1) rfl rfl hc1) fun v3 => ?_
  refine Tops_step rfl (OpT_assign rfl rfl rfl rfl) ?_
  refine Tops_nil (Tk_wkS (fr' := [(3, some (vU64 (u64 (maxi (0 : Int) np0)))), (4, some (v3)), (5, some (vI i1))]) (own' := [some (rowS u8S v3 (b1 ++ [(shr64 (u64 (maxi (0 : Int) np0)) ((u64 (wi ((8 : Int) * i1))).toNat)).toUInt8]))]) (shr' := []) [3, 4, 5] [0] [] rfl rfl rfl rfl ?_)
  refine Tk_blk (Tk_region (Tops_step rfl (OpT_move rfl rfl rfl rfl) ?_))
  refine Tops_step rfl (OpT_bin rfl rfl rfl rfl rfl (bin_add_i (a := i1) (b := (1 : Int)))) ?_
  refine Tops_step rfl (OpT_assign rfl rfl rfl rfl) ?_
  refine Tops_nil (Tk_wkS (fr' := [(3, some (vU64 (u64 (maxi (0 : Int) np0)))), (4, some (v3)), (5, some (vI (wi (i1 + (1 : Int)))))]) (own' := [some (rowS u8S v3 (b1 ++ [(shr64 (u64 (maxi (0 : Int) np0)) ((u64 (wi ((8 : Int) * i1))).toNat)).toUInt8]))]) (shr' := []) [3, 4, 5] [0] [] rfl rfl rfl rfl ?_)
  exact Tk_backS (b1 ++ [(shr64 (u64 (maxi (0 : Int) np0)) ((u64 (wi ((8 : Int) * i1))).toNat)).toUInt8], wi (i1 + (1 : Int)), v3) h [3, 4, 5] [0] [] rfl rfl rfl rfl rfl
 ·replace h := br_f hg1 h
  refine Tk_condF (congrArg (fun b => some (Value.bool b)) hg1) ?_
  refine Tk_exit _ rfl ?_
  refine Tk_seq (Tk_region (Tops_step rfl (OpT_move rfl rfl rfl rfl) ?_))
  refine Tops_step rfl (OpT_assign rfl rfl rfl rfl) ?_
  refine Tops_nil (Tk_wkS (fr' := [(2, some (v1))]) (own' := [some (rowS u8S v1 b1)]) (shr' := []) [2] [0] [] rfl rfl rfl rfl ?_)
  obtain rfl := Option.some.inj h
  exact Tk_retV rfl rfl (resA (vs := [v1]) rfl ⟨rfl, trivial⟩) [0] [] rfl rfl rfl ⟨v1, rfl, rfl, rfl⟩

theorem ws_ref_Config22 {np0 : Int} {r : (List UInt8)} (h : ref_Config22 np0 = some r) :
  Ctr Try.prog 33 #[vI np0] [] []
   (fun rv own shr => ∃ (w1 : Value), rv = w1 ∧ own = [] ∧ shr = [Fact.sl u8S w1 r]) :=
 Ctr.sh (w_ref_Config22 h) (by rintro w1 _ _ ⟨_, rfl, rfl, rfl⟩; exact ⟨[], _, _, _, _, rfl, w1, rfl, rfl, rfl⟩)
end Go.Proofs.Ytkmjpgfbcklopaa
