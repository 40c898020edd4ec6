/- The functions do what the plain words say: each is walked once. No statement of the seat is proved here; no condition. -/
import Derived.Test.YtjfdamiilndgeaaMo1
import Derived.Test.YtjfdamiilndgeaaFc
namespace Go.Proofs.Ytjfdamiilndgeaa
attribute [local irreducible] sub
set_option maxRecDepth 100000 in
set_option maxHeartbeats 4000000 in
theorem w_sectors_New {np0 : Int} {r : ((Option sectors_Store) × Int)} (h : sectors_New np0 = some r) :
  Ctr Try.prog 7 #[vI np0] [] []
   (fun rv own shr => ∃ (w1 : Value), rv = .tuple #[w1, vI r.2] ∧ own = [(optT tsectors_Store w1 r.1)] ∧ shr = []) := by
 unfold sectors_New at h
 refine Ctr.mk (args := [vI np0]) Try.func7 rfl rfl (fun R0 w0 B => ?_)
 refine Tk_seq (Tk_region (Tops_step rfl (OpT_assign rfl rfl rfl rfl) ?_))
 refine Tops_step rfl (OpT_assign rfl rfl rfl rfl) ?_
 refine Tops_nil (tZ [0] [] [] rfl rfl rfl rfl ?_)
 refine Tk_seq (Tk_seq (Tk_region (Tops_step rfl (OpT_move rfl rfl rfl rfl) ?_)))
 refine Tops_step rfl (OpT_bin rfl rfl rfl rfl rfl (bin_lss_i (a := np0) (b := (1 : Int)))) ?_
 refine Tops_step rfl (OpT_move rfl rfl rfl rfl) ?_
 rcases Bool.eq_false_or_eq_true (decide (np0 < (1 : Int))) with hg1 | hg1
 ·replace h := br_t hg1 h
  refine Tops_no rfl rfl (congrArg (fun b => some (Value.bool b)) hg1) rfl rfl ?_
  refine Tops_no rfl rfl (congrArg (fun b => some (Value.bool b)) hg1) rfl rfl ?_
  refine Tops_step rfl (OpT_pickT rfl rfl rfl (congrArg (fun b => some (Value.bool b)) hg1) rfl) ?_
  refine Tops_nil (tZ [0, 9] [] [] rfl rfl rfl rfl ?_)
  refine Tk_condT rfl ?_
  refine Tk_seq (Tk_region (Tops_step rfl (OpT_assign rfl rfl rfl rfl) ?_))
  refine Tops_step rfl (OpT_assign rfl rfl rfl rfl) ?_
  refine Tops_nil (tZ [2, 3] [] [] rfl rfl rfl rfl ?_)
  refine Tk_nilT tsectors_Store ?_
  obtain rfl := Option.some.inj h
  exact Tk_retV rfl rfl (resA (vs := [.pointer none, vI (2 : Int)]) rfl ⟨rfl, rfl, trivial⟩) [0] [] rfl rfl rfl ⟨(.pointer none), rfl, rfl, rfl⟩
 ·replace h := br_f hg1 h
  refine Tops_yes rfl rfl (congrArg (fun b => some (Value.bool b)) hg1) (OpT_move rfl rfl rfl rfl) ?_
  rintro _ rfl
  refine Tops_yes rfl rfl (congrArg (fun b => some (Value.bool b)) hg1) (OpT_bin rfl rfl rfl rfl rfl (bin_gtr_i (a := np0) (b := (4096 : Int)))) ?_
  rintro _ rfl
  refine Tops_step rfl (OpT_pickF rfl rfl rfl (congrArg (fun b => some (Value.bool b)) hg1) rfl) ?_
  refine Tops_nil (tZ [0, 9] [] [] rfl rfl rfl rfl ?_)
  rcases Bool.eq_false_or_eq_true (decide (np0 > (4096 : Int))) with hg2 | hg2
  ·replace h := br_t hg2 h
   refine Tk_condT (congrArg (fun b => some (Value.bool b)) hg2) ?_
   refine Tk_seq (Tk_region (Tops_step rfl (OpT_assign rfl rfl rfl rfl) ?_))
   refine Tops_step rfl (OpT_assign rfl rfl rfl rfl) ?_
   refine Tops_nil (tZ [2, 3] [] [] rfl rfl rfl rfl ?_)
   refine Tk_nilT tsectors_Store ?_
   obtain rfl := Option.some.inj h
   exact Tk_retV rfl rfl (resA (vs := [.pointer none, vI (2 : Int)]) rfl ⟨rfl, rfl, trivial⟩) [0] [] rfl rfl rfl ⟨(.pointer none), rfl, rfl, rfl⟩
  ·replace h := br_f hg2 h
   refine Tk_condF (congrArg (fun b => some (Value.bool b)) hg2) ?_
   refine Tk_skip (Tk_seq (Tk_region (Tops_step rfl (OpT_move rfl rfl rfl rfl) ?_)))
   obtain ⟨hc1, h⟩ := chk_e h
   refine Tops_ex rfl (OpT_makeD secS rfl (u := Sec.z) rfl rfl rfl rfl rfl slF68 rfl hc1) fun v1 => ?_
   refine Tops_ex rfl (OpT_makeMap .i64 (fun x : Int => x) vSec rfl rfl rfl) fun b1 => ?_
   refine Tops_step rfl (OpT_build1 (fun z0 => [(0, z0), (1, .map (some b1))]) (fun z0 => [z0, .map (some b1)]) rfl rfl rfl rfl (is_row (i := 0) rfl) (by intros; kernel_rfl)) ?_
   refine Tops_ex rfl (OpT_box rfl rfl rfl rfl) fun b2 => ?_
   refine Tops_step rfl (OpT_assign rfl rfl rfl rfl) ?_
   refine Tops_step rfl (OpT_assign rfl rfl rfl rfl) ?_
   refine Tops_nil (tZ [2, 3] [0, 1, 2] [] rfl rfl rfl rfl ?_)
   refine Tk_vs (vs_mapV (i := 1) rfl) ?_
   refine Tk_vs (vs_join (i := 0) (j := 1) rfl rfl rfl) ?_
   refine Tk_vs (vs_join (i := 2) (j := 0) rfl rfl rfl) ?_
   refine Tk_vs (vs_optT tsectors_Store (sectors_Store.mk (List.replicate np0.toNat Sec.z) ([] : List (Int × Sec))) b2 [v1, .map (some b1)] (i := 2) rfl (by kernel_rfl)) ?_
   obtain rfl := Option.some.inj h
   exact Tk_retV rfl rfl (resA (vs := [.pointer (some ⟨b2, 0, none⟩), vI (0 : Int)]) rfl ⟨rfl, rfl, trivial⟩) [2] [] rfl rfl rfl ⟨(.pointer (some ⟨b2, 0, none⟩)), rfl, rfl, rfl⟩

set_option maxRecDepth 100000 in
set_option maxHeartbeats 4000000 in
theorem w_blk_ranged {tp0 : UInt32} {r : Bool} (h : blk_ranged tp0 = some r) :
  Ctr Try.prog 27 #[vU32 tp0] [] []
   (fun rv own shr => rv = vB r ∧ own = [] ∧ shr = []) := by
 unfold blk_ranged at h
 refine Ctr.mk (args := [vU32 tp0]) Try.func27 rfl rfl (fun R0 w0 B => ?_)
 refine Tk_seq (Tk_region (Tops_step rfl (OpT_assign rfl rfl rfl rfl) ?_))
 refine Tops_nil (tZ [0] [] [] rfl rfl rfl rfl ?_)
 refine Tk_seq (Tk_region (Tops_step rfl (OpT_move rfl rfl rfl rfl) ?_))
 refine Tops_step rfl (OpT_bin rfl rfl rfl rfl rfl (bin_eql_u32 (a := tp0) (b := (11 : UInt32)))) ?_
 refine Tops_step rfl (OpT_move rfl rfl rfl rfl) ?_
 rcases Bool.eq_false_or_eq_true (tp0 == (11 : UInt32)) with hg1 | hg1
 ·replace h := br_t hg1 h
  refine Tops_no rfl rfl (congrArg (fun b => some (Value.bool b)) hg1) rfl rfl ?_
  refine Tops_no rfl rfl (congrArg (fun b => some (Value.bool b)) hg1) rfl rfl ?_
  refine Tops_step rfl (OpT_pickT rfl rfl rfl (congrArg (fun b => some (Value.bool b)) hg1) rfl) ?_
  refine Tops_step rfl (OpT_assign rfl rfl rfl rfl) ?_
  refine Tops_nil (tZ [2] [] [] rfl rfl rfl rfl ?_)
  obtain rfl := Option.some.inj h
  exact Tk_retV rfl rfl (resA (vs := [vB true]) rfl ⟨rfl, trivial⟩) [] [] rfl rfl rfl ⟨rfl, rfl, rfl⟩
 ·replace h := br_f hg1 h
  refine Tops_yes rfl rfl (congrArg (fun b => some (Value.bool b)) hg1) (OpT_move rfl rfl rfl rfl) ?_
  rintro _ rfl
  refine Tops_yes rfl rfl (congrArg (fun b => some (Value.bool b)) hg1) (OpT_bin rfl rfl rfl rfl rfl (bin_eql_u32 (a := tp0) (b := (13 : UInt32)))) ?_
  rintro _ rfl
  refine Tops_step rfl (OpT_pickF rfl rfl rfl (congrArg (fun b => some (Value.bool b)) hg1) rfl) ?_
  refine Tops_step rfl (OpT_assign rfl rfl rfl rfl) ?_
  refine Tops_nil (tZ [2] [] [] rfl rfl rfl rfl ?_)
  obtain rfl := Option.some.inj h
  exact Tk_retV rfl rfl (resA (vs := [vB (tp0 == (13 : UInt32))]) rfl ⟨rfl, trivial⟩) [] [] rfl rfl rfl ⟨rfl, rfl, rfl⟩

set_option maxRecDepth 100000 in
set_option maxHeartbeats 4000000 in
theorem w_blk_Check {rp0 : Req} {vrp01 : Value} {vrp02 : Value} {r : Int} (h : blk_Check rp0 = some r) :
  Ctr Try.prog 13 #[.agg #[vU32 rp0.Type_, vU64 rp0.Sector, vrp01, vI rp0.Room, vrp02]] [] [Fact.sl u8S vrp01 rp0.Data, Fact.sl RangeS vrp02 rp0.Ranges]
   (fun rv own shr => rv = vI r ∧ own = [] ∧ shr = []) := by
 unfold blk_Check at h
 refine Ctr.mk (args := [.agg #[vU32 rp0.Type_, vU64 rp0.Sector, vrp01, vI rp0.Room, vrp02]]) Try.func13 rfl rfl (fun R0 w0 B => ?_)
 refine Tk_seq (Tk_region (Tops_ex rfl (OpT_box rfl rfl rfl rfl) fun b1 => ?_))
 refine Tops_step rfl (OpT_assign rfl rfl rfl rfl) ?_
 refine Tops_nil (tZ [1] [0] [0, 1] rfl rfl rfl rfl ?_)
 refine Tk_seq (Tk_seq (Tk_region (Tops_step rfl (OpT_fieldC rfl rfl rfl rfl fldF35x4) ?_)))
 refine Tops_step rfl (OpT_loadC rfl rfl rfl rfl tyF33 (i := 0) rfl rfl) ?_
 refine Tops_step rfl (OpT_lenS rfl rfl rfl rfl Try.underlying33 (i := 1) rfl) ?_
 refine Tops_step rfl (OpT_bin rfl rfl rfl rfl rfl (bin_gtr_i (a := len rp0.Ranges) (b := (16 : Int)))) ?_
 refine Tops_step rfl (OpT_move rfl rfl rfl rfl) ?_
 rcases Bool.eq_false_or_eq_true (decide ((len rp0.Ranges) > (16 : Int))) with hg1 | hg1
 ·replace h := br_t hg1 h
  refine Tops_no rfl rfl (congrArg (fun b => some (Value.bool b)) hg1) rfl rfl ?_
  refine Tops_no rfl rfl (congrArg (fun b => some (Value.bool b)) hg1) rfl rfl ?_
  refine Tops_no rfl rfl (congrArg (fun b => some (Value.bool b)) hg1) rfl rfl ?_
  refine Tops_no rfl rfl (congrArg (fun b => some (Value.bool b)) hg1) rfl rfl ?_
  refine Tops_no rfl rfl (congrArg (fun b => some (Value.bool b)) hg1) rfl rfl ?_
  refine Tops_noU rfl rfl rfl rfl rfl ?_
  refine Tops_noU rfl rfl rfl rfl rfl ?_
  refine Tops_noU rfl rfl rfl rfl rfl ?_
  refine Tops_noU rfl rfl rfl rfl rfl ?_
  refine Tops_noU rfl rfl rfl rfl rfl ?_
  refine Tops_noU rfl rfl rfl rfl rfl ?_
  refine Tops_noU rfl rfl rfl rfl rfl ?_
  refine Tops_noU rfl rfl rfl rfl rfl ?_
  refine Tops_noU rfl rfl rfl rfl rfl ?_
  refine Tops_noU rfl rfl rfl rfl rfl ?_
  refine Tops_no rfl rfl (congrArg (fun b => some (Value.bool b)) hg1) rfl rfl ?_
  refine Tops_step rfl (OpT_pickT rfl rfl rfl (congrArg (fun b => some (Value.bool b)) hg1) rfl) ?_
  refine Tops_step rfl (OpT_move rfl rfl rfl rfl) ?_
  refine Tops_no rfl rfl rfl rfl rfl ?_
  refine Tops_no rfl rfl rfl rfl rfl ?_
  refine Tops_no rfl rfl rfl rfl rfl ?_
  refine Tops_step rfl (OpT_pickT rfl rfl rfl rfl rfl) ?_
  refine Tops_nil (tZ [29] [] [] rfl rfl rfl rfl ?_)
  refine Tk_condT rfl ?_
  refine Tk_seq (Tk_region (Tops_step rfl (OpT_assign rfl rfl rfl rfl) ?_))
  refine Tops_nil (tZ [2] [] [] rfl rfl rfl rfl ?_)
  obtain rfl := Option.some.inj h
  exact Tk_retV rfl rfl (resA (vs := [vI (2 : Int)]) rfl ⟨rfl, trivial⟩) [] [] rfl rfl rfl ⟨rfl, rfl, rfl⟩
 ·replace h := br_f hg1 h
  refine Tops_yes rfl rfl (congrArg (fun b => some (Value.bool b)) hg1) (OpT_fieldC rfl rfl rfl rfl fldF35x4) ?_
  rintro _ rfl
  refine Tops_yes rfl rfl (congrArg (fun b => some (Value.bool b)) hg1) (OpT_loadC rfl rfl rfl rfl tyF33 (i := 0) rfl rfl) ?_
  rintro _ rfl
  refine Tops_yes rfl rfl (congrArg (fun b => some (Value.bool b)) hg1) (OpT_lenS rfl rfl rfl rfl Try.underlying33 (i := 1) rfl) ?_
  rintro _ rfl
  refine Tops_yes rfl rfl (congrArg (fun b => some (Value.bool b)) hg1) (OpT_bin rfl rfl rfl rfl rfl (bin_gtr_i (a := len rp0.Ranges) (b := (0 : Int)))) ?_
  rintro _ rfl
  refine Tops_yes rfl rfl (congrArg (fun b => some (Value.bool b)) hg1) (OpT_move rfl rfl rfl rfl) ?_
  rintro _ rfl
  rcases Bool.eq_false_or_eq_true (decide ((len rp0.Ranges) > (0 : Int))) with hg2 | hg2
  ·replace h := br_t hg2 h
   refine Tops_yes rfl rfl (congrArg (fun b => some (Value.bool b)) hg2) (OpT_fieldC rfl rfl rfl rfl fldF35x0) ?_
   rintro _ rfl
   refine Tops_yes rfl rfl (congrArg (fun b => some (Value.bool b)) hg2) (OpT_loadC rfl rfl rfl rfl tyF29 (i := 0) rfl rfl) ?_
   rintro _ rfl
   obtain ⟨ranged1, hx1, h⟩ := ob_e h
   refine Tops_yes rfl rfl (congrArg (fun b => some (Value.bool b)) hg2) (OpT_call (w_blk_ranged hx1) [] [] rfl rfl rfl rfl rfl callee27 rfl rfl rfl rfl) ?_
   rintro _ ⟨_, _, _, ⟨rfl, rfl, rfl⟩, rfl⟩
   refine Tops_yes rfl rfl (congrArg (fun b => some (Value.bool b)) hg2) (OpT_not rfl rfl rfl rfl) ?_
   rintro _ rfl
   refine Tops_yes rfl rfl (congrArg (fun b => some (Value.bool b)) hg2) (OpT_move rfl rfl rfl rfl) ?_
   rintro _ rfl
   rcases Bool.eq_false_or_eq_true ((!ranged1)) with hg3 | hg3
   ·replace h := br_t hg3 h
    refine Tops_no rfl rfl (congrArg (fun b => some (Value.bool b)) hg3) rfl rfl ?_
    refine Tops_no rfl rfl (congrArg (fun b => some (Value.bool b)) hg3) rfl rfl ?_
    refine Tops_no rfl rfl (congrArg (fun b => some (Value.bool b)) hg3) rfl rfl ?_
    refine Tops_no rfl rfl (congrArg (fun b => some (Value.bool b)) hg3) rfl rfl ?_
    refine Tops_yes rfl rfl (congrArg (fun b => some (Value.bool b)) hg2) (OpT_pickT rfl rfl rfl (congrArg (fun b => some (Value.bool b)) hg3) rfl) ?_
    rintro _ rfl
    refine Tops_yes rfl rfl (congrArg (fun b => some (Value.bool b)) hg1) (OpT_pickT rfl rfl rfl (congrArg (fun b => some (Value.bool b)) hg2) rfl) ?_
    rintro _ rfl
    refine Tops_step rfl (OpT_pickF rfl rfl rfl (congrArg (fun b => some (Value.bool b)) hg1) rfl) ?_
    refine Tops_step rfl (OpT_move rfl rfl rfl rfl) ?_
    refine Tops_no rfl rfl rfl rfl rfl ?_
    refine Tops_no rfl rfl rfl rfl rfl ?_
    refine Tops_no rfl rfl rfl rfl rfl ?_
    refine Tops_step rfl (OpT_pickT rfl rfl rfl rfl rfl) ?_
    refine Tops_nil (tZ [29] [] [] rfl rfl rfl rfl ?_)
    refine Tk_condT rfl ?_
    refine Tk_seq (Tk_region (Tops_step rfl (OpT_assign rfl rfl rfl rfl) ?_))
    refine Tops_nil (tZ [2] [] [] rfl rfl rfl rfl ?_)
    obtain rfl := Option.some.inj h
    exact Tk_retV rfl rfl (resA (vs := [vI (2 : Int)]) rfl ⟨rfl, trivial⟩) [] [] rfl rfl rfl ⟨rfl, rfl, rfl⟩
   ·replace h := br_f hg3 h
    refine Tops_yes rfl rfl (congrArg (fun b => some (Value.bool b)) hg3) (OpT_fieldC rfl rfl rfl rfl fldF35x2) ?_
    rintro _ rfl
    refine Tops_yes rfl rfl (congrArg (fun b => some (Value.bool b)) hg3) (OpT_loadC rfl rfl rfl rfl tyF26 (i := 0) rfl rfl) ?_
    rintro _ rfl
    refine Tops_yes rfl rfl (congrArg (fun b => some (Value.bool b)) hg3) (OpT_lenS rfl rfl rfl rfl Try.underlying26 (i := 0) rfl) ?_
    rintro _ rfl
    refine Tops_yes rfl rfl (congrArg (fun b => some (Value.bool b)) hg3) (OpT_bin rfl rfl rfl rfl rfl (bin_gtr_i (a := len rp0.Data) (b := (0 : Int)))) ?_
    rintro _ rfl
    refine Tops_yes rfl rfl (congrArg (fun b => some (Value.bool b)) hg2) (OpT_pickF rfl rfl rfl (congrArg (fun b => some (Value.bool b)) hg3) rfl) ?_
    rintro _ rfl
    refine Tops_yes rfl rfl (congrArg (fun b => some (Value.bool b)) hg1) (OpT_pickT rfl rfl rfl (congrArg (fun b => some (Value.bool b)) hg2) rfl) ?_
    rintro _ rfl
    refine Tops_step rfl (OpT_pickF rfl rfl rfl (congrArg (fun b => some (Value.bool b)) hg1) rfl) ?_
    refine Tops_step rfl (OpT_move rfl rfl rfl rfl) ?_
    rcases Bool.eq_false_or_eq_true (decide ((len rp0.Data) > (0 : Int))) with hg4 | hg4
    ·replace h := br_t hg4 h
     refine Tops_no rfl rfl (congrArg (fun b => some (Value.bool b)) hg4) rfl rfl ?_
     refine Tops_no rfl rfl (congrArg (fun b => some (Value.bool b)) hg4) rfl rfl ?_
     refine Tops_no rfl rfl (congrArg (fun b => some (Value.bool b)) hg4) rfl rfl ?_
     refine Tops_step rfl (OpT_pickT rfl rfl rfl (congrArg (fun b => some (Value.bool b)) hg4) rfl) ?_
     refine Tops_nil (tZ [29] [] [] rfl rfl rfl rfl ?_)
     refine Tk_condT rfl ?_
     refine Tk_seq (Tk_region (Tops_step rfl (OpT_assign rfl rfl rfl rfl) ?_))
     refine Tops_nil (tZ [2] [] [] rfl rfl rfl rfl ?_)
     obtain rfl := Option.some.inj h
     exact Tk_retV rfl rfl (resA (vs := [vI (2 : Int)]) rfl ⟨rfl, trivial⟩) [] [] rfl rfl rfl ⟨rfl, rfl, rfl⟩
    ·replace h := br_f hg4 h
     refine Tops_yes rfl rfl (congrArg (fun b => some (Value.bool b)) hg4) (OpT_fieldC rfl rfl rfl rfl fldF35x3) ?_
     rintro _ rfl
     refine Tops_yes rfl rfl (congrArg (fun b => some (Value.bool b)) hg4) (OpT_loadC rfl rfl rfl rfl tyF3 (i := 0) rfl rfl) ?_
     rintro _ rfl
     refine Tops_yes rfl rfl (congrArg (fun b => some (Value.bool b)) hg4) (OpT_bin rfl rfl rfl rfl rfl (bin_lss_i (a := rp0.Room) (b := (0 : Int)))) ?_
     rintro _ rfl
     refine Tops_step rfl (OpT_pickF rfl rfl rfl (congrArg (fun b => some (Value.bool b)) hg4) rfl) ?_
     refine Tops_nil (tZ [29] [] [] rfl rfl rfl rfl ?_)
     rcases Bool.eq_false_or_eq_true (decide (rp0.Room < (0 : Int))) with hg5 | hg5
     ·replace h := br_t hg5 h
      refine Tk_condT (congrArg (fun b => some (Value.bool b)) hg5) ?_
      refine Tk_seq (Tk_region (Tops_step rfl (OpT_assign rfl rfl rfl rfl) ?_))
      refine Tops_nil (tZ [2] [] [] rfl rfl rfl rfl ?_)
      obtain rfl := Option.some.inj h
      exact Tk_retV rfl rfl (resA (vs := [vI (2 : Int)]) rfl ⟨rfl, trivial⟩) [] [] rfl rfl rfl ⟨rfl, rfl, rfl⟩
     ·replace h := br_f hg5 h
      refine Tk_condF (congrArg (fun b => some (Value.bool b)) hg5) ?_
      refine Tk_skip (Tk_seq (Tk_region (Tops_step rfl (OpT_assign rfl rfl rfl rfl) ?_)))
      refine Tops_nil (tZ [2] [] [] rfl rfl rfl rfl ?_)
      obtain rfl := Option.some.inj h
      exact Tk_retV rfl rfl (resA (vs := [vI (0 : Int)]) rfl ⟨rfl, trivial⟩) [] [] rfl rfl rfl ⟨rfl, rfl, rfl⟩
  ·replace h := br_f hg2 h
   refine Tops_no rfl rfl (congrArg (fun b => some (Value.bool b)) hg2) rfl rfl ?_
   refine Tops_no rfl rfl (congrArg (fun b => some (Value.bool b)) hg2) rfl rfl ?_
   refine Tops_no rfl rfl (congrArg (fun b => some (Value.bool b)) hg2) rfl rfl ?_
   refine Tops_no rfl rfl (congrArg (fun b => some (Value.bool b)) hg2) rfl rfl ?_
   refine Tops_no rfl rfl (congrArg (fun b => some (Value.bool b)) hg2) rfl rfl ?_
   refine Tops_noU rfl rfl rfl rfl rfl ?_
   refine Tops_noU rfl rfl rfl rfl rfl ?_
   refine Tops_noU rfl rfl rfl rfl rfl ?_
   refine Tops_noU rfl rfl rfl rfl rfl ?_
   refine Tops_no rfl rfl (congrArg (fun b => some (Value.bool b)) hg2) rfl rfl ?_
   refine Tops_yes rfl rfl (congrArg (fun b => some (Value.bool b)) hg1) (OpT_pickF rfl rfl rfl (congrArg (fun b => some (Value.bool b)) hg2) rfl) ?_
   rintro _ rfl
   refine Tops_step rfl (OpT_pickF rfl rfl rfl (congrArg (fun b => some (Value.bool b)) hg1) rfl) ?_
   refine Tops_step rfl (OpT_move rfl rfl rfl rfl) ?_
   refine Tops_yes rfl rfl rfl (OpT_fieldC rfl rfl rfl rfl fldF35x3) ?_
   rintro _ rfl
   refine Tops_yes rfl rfl rfl (OpT_loadC rfl rfl rfl rfl tyF3 (i := 0) rfl rfl) ?_
   rintro _ rfl
   refine Tops_yes rfl rfl rfl (OpT_bin rfl rfl rfl rfl rfl (bin_lss_i (a := rp0.Room) (b := (0 : Int)))) ?_
   rintro _ rfl
   refine Tops_step rfl (OpT_pickF rfl rfl rfl rfl rfl) ?_
   refine Tops_nil (tZ [29] [] [] rfl rfl rfl rfl ?_)
   rcases Bool.eq_false_or_eq_true (decide (rp0.Room < (0 : Int))) with hg6 | hg6
   ·replace h := br_t hg6 h
    refine Tk_condT (congrArg (fun b => some (Value.bool b)) hg6) ?_
    refine Tk_seq (Tk_region (Tops_step rfl (OpT_assign rfl rfl rfl rfl) ?_))
    refine Tops_nil (tZ [2] [] [] rfl rfl rfl rfl ?_)
    obtain rfl := Option.some.inj h
    exact Tk_retV rfl rfl (resA (vs := [vI (2 : Int)]) rfl ⟨rfl, trivial⟩) [] [] rfl rfl rfl ⟨rfl, rfl, rfl⟩
   ·replace h := br_f hg6 h
    refine Tk_condF (congrArg (fun b => some (Value.bool b)) hg6) ?_
    refine Tk_skip (Tk_seq (Tk_region (Tops_step rfl (OpT_assign rfl rfl rfl rfl) ?_)))
    refine Tops_nil (tZ [2] [] [] rfl rfl rfl rfl ?_)
    obtain rfl := Option.some.inj h
    exact Tk_retV rfl rfl (resA (vs := [vI (0 : Int)]) rfl ⟨rfl, trivial⟩) [] [] rfl rfl rfl ⟨rfl, rfl, rfl⟩

set_option maxRecDepth 100000 in
set_option maxHeartbeats 4000000 in
theorem w_blk_word {b : List UInt8} {vp1 : UInt64} {np2 : Int} {v_b : Value} {r : (List UInt8)} (h : blk_word b vp1 np2 = some r) :
  Ctr Try.prog 24 #[v_b, vU64 vp1, vI np2] [(rowS u8S v_b b)] []
   (fun rv own shr => ∃ (w1 : Value), rv = w1 ∧ own = [(rowS u8S w1 r)] ∧ shr = []) := by
 unfold blk_word at h
 refine Ctr.mk (args := [v_b, vU64 vp1, vI np2]) Try.func24 rfl rfl (fun R0 w0 B => ?_)
 refine Tk_seq (Tk_region (Tops_step rfl (OpT_assign rfl rfl rfl rfl) ?_))
 refine Tops_nil (tZ [0, 1, 2] [0] [] rfl rfl rfl rfl ?_)
 refine Tk_seq (Tk_seq (Tk_region (Tops_step rfl (OpT_move rfl rfl rfl rfl) ?_)))
 refine Tops_step rfl (OpT_move rfl rfl rfl rfl) ?_
 refine Tops_nil (tZ [0, 1, 7, 8] [0] [] rfl rfl rfl rfl ?_)
 refine Tk_block (Tk_loopS (σ := (List UInt8) × UInt64 × Int × Value) [0, 1, 7, 8] [0] [] (fun s => ⟨[(0, some (s.2.2.2)), (1, some (vU64 s.2.1)), (7, some (vI np2)), (8, some (vI s.2.2.1))], [some (rowS u8S s.2.2.2 s.1)], []⟩) (fun nf1 s => blk_wordL1 np2 nf1 s.1 s.2.1 s.2.2.1 = some r) fuel (b, vp1, (0 : Int), v_b) h rfl rfl rfl rfl rfl (fun s h => by cases h) ?_)
 rintro nf1 ⟨b1, v2, x1, v1⟩ h
 replace h : blk_wordL1B np2 (blk_wordL1 np2 nf1) b1 v2 x1 = some r := h
 unfold blk_wordL1B at h
 refine Tk_seq (Tk_region (Tops_step rfl (OpT_bin rfl rfl rfl rfl rfl (bin_lss_i (a := x1) (b := np2))) ?_))
 refine Tops_nil (Tk_seq ?_)
 rcases Bool.eq_false_or_eq_true (decide (x1 < np2)) with hg1 | hg1
 ·replace h := br_t hg1 h
  refine Tk_condT (congrArg (fun b => some (Value.bool b)) hg1) ?_
  refine Tk_skip (Tk_seq (Tk_block (Tk_seq (Tk_region (Tops_step rfl (OpT_move rfl rfl rfl rfl) ?_)))))
  refine Tops_step rfl (OpT_move rfl rfl rfl rfl) ?_
  refine Tops_step rfl (OpT_cnv rfl rfl rfl rfl (cnv_u64_u8 (n := v2) Try.underlying30 Try.underlying5)) ?_
  refine Tops_ex rfl (OpT_buildSlice (S := u8S) (xs := [v2.toUInt8]) (css := [[vU8 v2.toUInt8]]) (cs := [vU8 v2.toUInt8]) (e := 5) rfl rfl rfl rfl (bldF slF26 (by decide) (by kernel_rfl)) rfl rfl rfl rfl (rel_plainD (S := u8S) (xs := [v2.toUInt8]) (css := [[vU8 v2.toUInt8]]) rfl rfl)) fun v3 => ?_
  obtain ⟨hc1, h⟩ := chk_e h
  refine Tops_ex rfl (OpT_appendB (S := u8S) rfl rfl rfl rfl rfl rfl slF26 (i := 0) (j := 1) rfl rfl hc1) fun v4 => ?_
  refine Tops_step rfl (OpT_assign rfl rfl rfl rfl) ?_
  refine Tops_nil (tZ [0, 1, 7, 8] [0] [] rfl rfl rfl rfl ?_)
  refine Tk_region (Tops_step rfl (OpT_move rfl rfl rfl rfl) ?_)
  refine Tops_step rfl (OpT_bin rfl rfl rfl rfl rfl (bin_shr_u64_u64 (a := v2) (n := (8 : UInt64)))) ?_
  refine Tops_step rfl (OpT_assign rfl rfl rfl rfl) ?_
  refine Tops_nil (tZ [0, 1, 7, 8] [0] [] rfl rfl rfl rfl ?_)
  refine Tk_blk (Tk_region (Tops_step rfl (OpT_bin rfl rfl rfl rfl rfl (bin_add_i (a := x1) (b := (1 : Int)))) ?_))
  refine Tops_step rfl (OpT_move rfl rfl rfl rfl) ?_
  refine Tops_nil (tZ [0, 1, 7, 8] [0] [] rfl rfl rfl rfl ?_)
  exact Tk_backS (b1 ++ [v2.toUInt8], shr64 v2 ((8 : UInt64).toNat), wi (x1 + (1 : Int)), v4) h [0, 1, 7, 8] [0] [] rfl rfl rfl rfl rfl
 ·replace h := br_f hg1 h
  refine Tk_condF (congrArg (fun b => some (Value.bool b)) hg1) ?_
  refine Tk_exit _ rfl ?_
  refine Tk_seq (Tk_region (Tops_step rfl (OpT_move rfl rfl rfl rfl) ?_))
  refine Tops_step rfl (OpT_assign rfl rfl rfl rfl) ?_
  refine Tops_nil (tZ [6] [0] [] rfl rfl rfl rfl ?_)
  obtain rfl := Option.some.inj h
  exact Tk_retV rfl rfl (resA (vs := [v1]) rfl ⟨rfl, trivial⟩) [0] [] rfl rfl rfl ⟨v1, rfl, rfl, rfl⟩

set_option maxRecDepth 100000 in
set_option maxHeartbeats 4000000 in
theorem w_blk_Bytes {rp0 : Req} {vrp01 : Value} {vrp02 : Value} {r : ((List UInt8) × Int)} (h : blk_Bytes rp0 = some r) :
  Ctr Try.prog 8 #[.agg #[vU32 rp0.Type_, vU64 rp0.Sector, vrp01, vI rp0.Room, vrp02]] [] [Fact.sl u8S vrp01 rp0.Data, Fact.sl RangeS vrp02 rp0.Ranges]
   (fun rv own shr => ∃ (w1 : Value), rv = .tuple #[w1, vI r.2] ∧ own = [(rowS u8S w1 r.1)] ∧ shr = []) := by
 unfold blk_Bytes at h
 refine Ctr.mk (args := [.agg #[vU32 rp0.Type_, vU64 rp0.Sector, vrp01, vI rp0.Room, vrp02]]) Try.func8 rfl rfl (fun R0 w0 B => ?_)
 refine Tk_seq (Tk_region (Tops_ex rfl (OpT_box rfl rfl rfl rfl) fun b1 => ?_))
 refine Tops_step rfl (OpT_assign rfl rfl rfl rfl) ?_
 refine Tops_step rfl (OpT_assign rfl rfl rfl rfl) ?_
 refine Tops_nil (tZ [1] [0] [0, 1] rfl rfl rfl rfl ?_)
 refine Tk_seq (Tk_seq (Tk_region (Tops_step rfl (OpT_loadCA (vs := [vU32 rp0.Type_, vU64 rp0.Sector, vrp01, vI rp0.Room, vrp02]) rfl rfl rfl rfl tyF35 (i := 0) rfl rfl rfl) ?_)))
 obtain ⟨check1, hx1, h⟩ := ob_e h
 refine Tops_exP rfl (OpT_call (w_blk_Check hx1) [] [0, 1] rfl rfl rfl rfl rfl callee13 rfl rfl rfl rfl) ?_
 rintro _ ⟨_, _, _, ⟨rfl, rfl, rfl⟩, rfl⟩
 refine Tops_step rfl (OpT_assign rfl rfl rfl rfl) ?_
 refine Tops_nil (tZ [1, 4] [0] [0, 1] rfl rfl rfl rfl ?_)
 refine Tk_seq (Tk_region (Tops_step rfl (OpT_move rfl rfl rfl rfl) ?_))
 refine Tops_step rfl (OpT_bin rfl rfl rfl rfl rfl (bin_neq_i (a := check1) (b := (0 : Int)))) ?_
 refine Tops_nil (tZ [1, 4, 11] [0] [0, 1] rfl rfl rfl rfl ?_)
 rcases Bool.eq_false_or_eq_true (check1 != (0 : Int)) with hg1 | hg1
 ·replace h := br_t hg1 h
  refine Tk_condT (congrArg (fun b => some (Value.bool b)) hg1) ?_
  refine Tk_seq (Tk_region (Tops_step rfl (OpT_move rfl rfl rfl rfl) ?_))
  refine Tops_step rfl (OpT_assign rfl rfl rfl rfl) ?_
  refine Tops_step rfl (OpT_assign rfl rfl rfl rfl) ?_
  refine Tops_nil (tZ [2, 3] [] [] rfl rfl rfl rfl ?_)
  refine Tk_nilrow u8S ?_
  obtain rfl := Option.some.inj h
  exact Tk_retV rfl rfl (resA (vs := [.slice none 0 0, vI check1]) rfl ⟨rfl, rfl, trivial⟩) [0] [] rfl rfl rfl ⟨(.slice none 0 0), rfl, rfl, rfl⟩
 ·replace h := br_f hg1 h
  refine Tk_condF (congrArg (fun b => some (Value.bool b)) hg1) ?_
  refine Tk_skip (Tk_seq (Tk_region (Tops_step rfl (OpT_fieldC rfl rfl rfl rfl fldF35x0) ?_)))
  refine Tops_step rfl (OpT_loadC rfl rfl rfl rfl tyF29 (i := 0) rfl rfl) ?_
  refine Tops_step rfl (OpT_cnv rfl rfl rfl rfl (cnv_u32_u64 (n := rp0.Type_) Try.underlying29 Try.underlying30)) ?_
  refine Tops_nilrow u8S ?_
  obtain ⟨word1, hx2, h⟩ := ob_e h
  refine Tops_exP rfl (OpT_call (w_blk_word hx2) [1] [] rfl rfl rfl rfl rfl callee24 rfl rfl rfl rfl) ?_
  rintro _ ⟨v1, _, _, ⟨_, rfl, rfl, rfl⟩, rfl⟩
  refine Tops_step rfl (OpT_assign rfl rfl rfl rfl) ?_
  refine Tops_nil (tZ [1, 5] [0, 2] [0, 1] rfl rfl rfl rfl ?_)
  refine Tk_seq (Tk_region (Tops_step rfl (OpT_move rfl rfl rfl rfl) ?_))
  obtain ⟨word2, hx3, h⟩ := ob_e h
  refine Tops_exP rfl (OpT_call (w_blk_word hx3) [1] [] rfl rfl rfl rfl rfl callee24 rfl rfl rfl rfl) ?_
  rintro _ ⟨v2, _, _, ⟨_, rfl, rfl, rfl⟩, rfl⟩
  refine Tops_step rfl (OpT_assign rfl rfl rfl rfl) ?_
  refine Tops_nil (tZ [1, 5] [0, 2] [0, 1] rfl rfl rfl rfl ?_)
  refine Tk_seq (Tk_drawT (by kernel_rfl) ?_)
  refine TA_tb [0, 0, 2, 7, 0, 16, 63, 127] (by kernel_rfl) fun htb => ?_
  obtain ⟨word3, hx4, h⟩ := ob_e h
  refine TA_seg (lo := 0) (hi := 6) htb rfl rfl (by kernel_rfl) (fun c L a w => ∃ (v3 : Value), Sat c ⟨[(1, some (.pointer (some ⟨b1, 0, none⟩))), (5, some (v2)), (19, bif L 0 then some (v2) else none), (20, bif L 1 then some (.pointer (some ⟨b1, 1, none⟩)) else none), (21, bif L 2 then some (vU64 rp0.Sector) else none), (22, bif L 3 then some (v3) else none), (23, bif L 4 then some (.pointer (some ⟨b1, 2, none⟩)) else none), (24, bif L 5 then some (vrp01) else none)], [(some (cellsR b1 35 [vU32 rp0.Type_, vU64 rp0.Sector, vrp01, vI rp0.Room, vrp02]) : Option Res), (bif L 3 then none else some (rowS u8S v2 word2) : Option Res), (bif L 3 then some (rowS u8S v3 word3) else none : Option Res)], [Fact.sl u8S vrp01 rp0.Data, Fact.sl RangeS vrp02 rp0.Ranges]⟩ a w) [([], [3]), ([], [2, 3]), ([1], [3]), ([0, 1, 2], []), ([], [5]), ([4], [])] rfl (by kernel_rfl) ?_ (steps_cons ?_ (steps_cons ?_ (steps_cons ?_ (steps_cons ?_ (steps_cons ?_ (steps_cons ?_ (steps_nil))))))) ?_
  ·intro a w hs
   exact ⟨undef, hs.startF [19, 20, 21, 22, 23, 24] [0, 1, 2] [0, 1] rfl rfl rfl rfl⟩
  ·intro L a w hv K Q hK
   obtain ⟨v3, hs⟩ := hv
   refine wpOp_go rfl rfl hs (OpT_move rfl rfl rfl rfl) ?_
   rintro _ rfl a' w' hs'
   exact hK a' w' ⟨v3, hs'.putF (i := 2) rfl [0, 1, 2] [0, 1] rfl rfl rfl rfl⟩
  ·intro L a w hv K Q hK
   obtain ⟨v3, hs⟩ := hv
   refine wpOp_go rfl rfl hs (OpT_fieldC rfl rfl rfl rfl fldF35x1) ?_
   rintro _ rfl a' w' hs'
   exact hK a' w' ⟨v3, hs'.putF (i := 3) rfl [0, 1, 2] [0, 1] rfl rfl rfl rfl⟩
  ·intro L a w hv K Q hK
   obtain ⟨v3, hs⟩ := hv
   refine wpOp_go rfl rfl hs (OpT_loadC rfl rfl rfl rfl tyF30 (i := 0) rfl rfl) ?_
   rintro _ rfl a' w' hs'
   exact hK a' w' ⟨v3, hs'.putF (i := 4) rfl [0, 1, 2] [0, 1] rfl rfl rfl rfl⟩
  ·intro L a w hv K Q hK
   obtain ⟨v3, hs⟩ := hv
   refine wpOp_go rfl rfl hs (OpT_call (w_blk_word hx4) [1] [] rfl rfl rfl rfl rfl callee24 rfl rfl rfl rfl) ?_
   rintro _ ⟨v3', _, _, ⟨_, rfl, rfl, rfl⟩, rfl⟩ a' w' hs'
   exact hK a' w' ⟨v3', hs'.putF (i := 5) rfl [0, 1, 3] [0, 1] rfl rfl rfl rfl⟩
  ·intro L a w hv K Q hK
   obtain ⟨v3, hs⟩ := hv
   refine wpOp_go rfl rfl hs (OpT_fieldC rfl rfl rfl rfl fldF35x2) ?_
   rintro _ rfl a' w' hs'
   exact hK a' w' ⟨v3, hs'.putF (i := 6) rfl [0, 1, 2] [0, 1] rfl rfl rfl rfl⟩
  ·intro L a w hv K Q hK
   obtain ⟨v3, hs⟩ := hv
   refine wpOp_go rfl rfl hs (OpT_loadC rfl rfl rfl rfl tyF26 (i := 0) rfl rfl) ?_
   rintro _ rfl a' w' hs'
   exact hK a' w' ⟨v3, hs'.putF (i := 7) rfl [0, 1, 2] [0, 1] rfl rfl rfl rfl⟩
  ·intro L a w hL hv
   rw [allTrue hL] at hv
   obtain ⟨v3, hs⟩ := hv
   refine gZ hs [1, 22, 24] [0, 2] [0, 1] rfl rfl rfl rfl ?_
   clear hs hL
   obtain ⟨hc1, h⟩ := chk_e h
   refine TA_ex htb (by kernel_rfl) rfl rfl (OpT_append rfl rfl rfl rfl rfl slF26 (i := 1) (j := 0) rfl rfl hc1) fun v4 => ?_
   refine TA_step htb (by kernel_rfl) rfl rfl (OpT_assign rfl rfl rfl rfl) ?_
   refine TA_end rfl ?_
   refine tZ [1, 5] [0, 1] [0, 1] rfl rfl rfl rfl ?_
   refine Tk_seq (Tk_seq (Tk_region (Tops_step rfl (OpT_fieldC rfl rfl rfl rfl fldF35x4) ?_)))
   refine Tops_step rfl (OpT_loadC rfl rfl rfl rfl tyF33 (i := 0) rfl rfl) ?_
   refine Tops_step rfl (OpT_lenS rfl rfl rfl rfl Try.underlying33 (i := 1) rfl) ?_
   refine Tops_step rfl (OpT_move rfl rfl rfl rfl) ?_
   refine Tops_nil (tZ [5, 27, 28, 29] [1] [1] rfl rfl rfl rfl ?_)
   refine Tk_block (Tk_loopS (σ := (List UInt8) × Int × Value) [5, 27, 28, 29] [0] [0] (fun s => ⟨[(5, some (s.2.2)), (27, some (vrp02)), (28, some (vI (len rp0.Ranges))), (29, some (vI s.2.1))], [some (rowS u8S s.2.2 s.1)], [Fact.sl RangeS vrp02 rp0.Ranges]⟩) (fun nf1 s => blk_BytesL1 rp0 nf1 s.1 s.2.1 = some r) fuel (word3 ++ rp0.Data, (0 : Int), v4) h rfl rfl rfl rfl rfl (fun s h => by cases h) ?_)
   rintro nf1 ⟨b2, x1, v5⟩ h
   replace h : blk_BytesL1B rp0 (blk_BytesL1 rp0 nf1) b2 x1 = some r := h
   unfold blk_BytesL1B at h
   refine Tk_seq (Tk_region (Tops_step rfl (OpT_bin rfl rfl rfl rfl rfl (bin_lss_i (a := x1) (b := len rp0.Ranges))) ?_))
   refine Tops_nil (Tk_seq ?_)
   rcases Bool.eq_false_or_eq_true (decide (x1 < (len rp0.Ranges))) with hg2 | hg2
   ·replace h := br_t hg2 h
    refine Tk_condT (congrArg (fun b => some (Value.bool b)) hg2) ?_
    refine Tk_skip (Tk_seq (Tk_block (Tk_seq (Tk_region ?_))))
    obtain ⟨r1, hx5, h⟩ := ob_e h
    refine Tops_ex rfl (OpT_idxS rfl rfl rfl rfl rfl slF33 (i := 0) rfl hx5) fun p1 => ?_
    refine Tops_step rfl (OpT_loadPA (vs := [vU64 r1.Sector, vU32 r1.Count, vU32 r1.Flags]) rfl rfl rfl rfl tyF32 (i := 1) rfl rfl) ?_
    refine Tops_ex rfl (OpT_alloc rfl rfl rfl tyZ32) fun b3 => ?_
    refine Tops_step rfl (OpT_storeC (cs' := [vU64 r1.Sector, vU32 r1.Count, vU32 r1.Flags]) rfl rfl rfl rfl tyF32 (i := 1) rfl rfl rfl (one_of rfl) rfl) ?_
    refine Tops_nil (tZ [5, 27, 28, 29, 7] [0, 1] [0] rfl rfl rfl rfl ?_)
    refine Tk_drawT (by kernel_rfl) ?_
    refine TA_tb [0, 0, 2, 7, 0, 16, 48, 127, 0, 256, 768, 2047, 4095] (by kernel_rfl) fun htb => ?_
    obtain ⟨word4, hx6, h⟩ := ob_e h
    obtain ⟨word5, hx7, h⟩ := ob_e h
    refine TA_seg (lo := 0) (hi := 11) htb rfl rfl (by kernel_rfl) (fun c L a w => ∃ (v6 : Value), ∃ (v7 : Value), Sat c ⟨[(5, some (v5)), (27, some (vrp02)), (28, some (vI (len rp0.Ranges))), (29, some (vI x1)), (7, some (.pointer (some ⟨b3, 0, none⟩))), (33, bif L 0 then some (v5) else none), (34, bif L 1 then some (.pointer (some ⟨b3, 0, none⟩)) else none), (35, bif L 2 then some (vU64 r1.Sector) else none), (36, bif L 3 then some (v6) else none), (37, bif L 4 then some (.pointer (some ⟨b3, 1, none⟩)) else none), (38, bif L 5 then some (vU32 r1.Count) else none), (39, bif L 6 then some (vU64 r1.Count.toUInt64) else none), (40, bif L 7 then some (v7) else none), (41, bif L 8 then some (.pointer (some ⟨b3, 2, none⟩)) else none), (42, bif L 9 then some (vU32 r1.Flags) else none), (43, bif L 10 then some (vU64 r1.Flags.toUInt64) else none)], [(bif L 3 then none else some (rowS u8S v5 b2) : Option Res), (some (cellsR b3 32 [vU64 r1.Sector, vU32 r1.Count, vU32 r1.Flags]) : Option Res), (bif L 7 then none else bif L 3 then some (rowS u8S v6 word4) else none : Option Res), (bif L 7 then some (rowS u8S v7 word5) else none : Option Res)], [Fact.sl RangeS vrp02 rp0.Ranges]⟩ a w) [([], [3, 7]), ([], [2, 3, 7]), ([1], [3, 7]), ([0, 1, 2], [7]), ([], [5, 6, 7]), ([4], [6, 7]), ([4, 5], [7]), ([0, 1, 2, 3, 4, 5, 6], []), ([], [9, 10]), ([8], [10]), ([8, 9], [])] rfl (by kernel_rfl) ?_ (steps_cons ?_ (steps_cons ?_ (steps_cons ?_ (steps_cons ?_ (steps_cons ?_ (steps_cons ?_ (steps_cons ?_ (steps_cons ?_ (steps_cons ?_ (steps_cons ?_ (steps_cons ?_ (steps_nil)))))))))))) ?_
    ·intro a w hs
     exact ⟨undef, undef, hs.startF [33, 34, 35, 36, 37, 38, 39, 40, 41, 42, 43] [0, 1, 2, 3] [0] rfl rfl rfl rfl⟩
    ·intro L a w hv K Q hK
     obtain ⟨v6, v7, hs⟩ := hv
     refine wpOp_go rfl rfl hs (OpT_move rfl rfl rfl rfl) ?_
     rintro _ rfl a' w' hs'
     exact hK a' w' ⟨v6, v7, hs'.putF (i := 5) rfl [0, 1, 2, 3] [0] rfl rfl rfl rfl⟩
    ·intro L a w hv K Q hK
     obtain ⟨v6, v7, hs⟩ := hv
     refine wpOp_go rfl rfl hs (OpT_fieldC rfl rfl rfl rfl fldF32x0) ?_
     rintro _ rfl a' w' hs'
     exact hK a' w' ⟨v6, v7, hs'.putF (i := 6) rfl [0, 1, 2, 3] [0] rfl rfl rfl rfl⟩
    ·intro L a w hv K Q hK
     obtain ⟨v6, v7, hs⟩ := hv
     refine wpOp_go rfl rfl hs (OpT_loadC rfl rfl rfl rfl tyF30 (i := 1) rfl rfl) ?_
     rintro _ rfl a' w' hs'
     exact hK a' w' ⟨v6, v7, hs'.putF (i := 7) rfl [0, 1, 2, 3] [0] rfl rfl rfl rfl⟩
    ·intro L a w hv K Q hK
     obtain ⟨v6, v7, hs⟩ := hv
     refine wpOp_go rfl rfl hs (OpT_call (w_blk_word hx6) [0] [] rfl rfl rfl rfl rfl callee24 rfl rfl rfl rfl) ?_
     rintro _ ⟨v6', _, _, ⟨_, rfl, rfl, rfl⟩, rfl⟩ a' w' hs'
     exact hK a' w' ⟨v6', v7, hs'.putF (i := 8) rfl [0, 1, 4, 3] [0] rfl rfl rfl rfl⟩
    ·intro L a w hv K Q hK
     obtain ⟨v6, v7, hs⟩ := hv
     refine wpOp_go rfl rfl hs (OpT_fieldC rfl rfl rfl rfl fldF32x1) ?_
     rintro _ rfl a' w' hs'
     exact hK a' w' ⟨v6, v7, hs'.putF (i := 9) rfl [0, 1, 2, 3] [0] rfl rfl rfl rfl⟩
    ·intro L a w hv K Q hK
     obtain ⟨v6, v7, hs⟩ := hv
     refine wpOp_go rfl rfl hs (OpT_loadC rfl rfl rfl rfl tyF29 (i := 1) rfl rfl) ?_
     rintro _ rfl a' w' hs'
     exact hK a' w' ⟨v6, v7, hs'.putF (i := 10) rfl [0, 1, 2, 3] [0] rfl rfl rfl rfl⟩
    ·intro L a w hv K Q hK
     obtain ⟨v6, v7, hs⟩ := hv
     refine wpOp_go rfl rfl hs (OpT_cnv rfl rfl rfl rfl (cnv_u32_u64 (n := r1.Count) Try.underlying29 Try.underlying30)) ?_
     rintro _ rfl a' w' hs'
     exact hK a' w' ⟨v6, v7, hs'.putF (i := 11) rfl [0, 1, 2, 3] [0] rfl rfl rfl rfl⟩
    ·intro L a w hv K Q hK
     obtain ⟨v6, v7, hs⟩ := hv
     refine wpOp_go rfl rfl hs (OpT_call (w_blk_word hx7) [2] [] rfl rfl rfl rfl rfl callee24 rfl rfl rfl rfl) ?_
     rintro _ ⟨v7', _, _, ⟨_, rfl, rfl, rfl⟩, rfl⟩ a' w' hs'
     exact hK a' w' ⟨v6, v7', hs'.putF (i := 12) rfl [0, 1, 2, 4] [0] rfl rfl rfl rfl⟩
    ·intro L a w hv K Q hK
     obtain ⟨v6, v7, hs⟩ := hv
     refine wpOp_go rfl rfl hs (OpT_fieldC rfl rfl rfl rfl fldF32x2) ?_
     rintro _ rfl a' w' hs'
     exact hK a' w' ⟨v6, v7, hs'.putF (i := 13) rfl [0, 1, 2, 3] [0] rfl rfl rfl rfl⟩
    ·intro L a w hv K Q hK
     obtain ⟨v6, v7, hs⟩ := hv
     refine wpOp_go rfl rfl hs (OpT_loadC rfl rfl rfl rfl tyF29 (i := 1) rfl rfl) ?_
     rintro _ rfl a' w' hs'
     exact hK a' w' ⟨v6, v7, hs'.putF (i := 14) rfl [0, 1, 2, 3] [0] rfl rfl rfl rfl⟩
    ·intro L a w hv K Q hK
     obtain ⟨v6, v7, hs⟩ := hv
     refine wpOp_go rfl rfl hs (OpT_cnv rfl rfl rfl rfl (cnv_u32_u64 (n := r1.Flags) Try.underlying29 Try.underlying30)) ?_
     rintro _ rfl a' w' hs'
     exact hK a' w' ⟨v6, v7, hs'.putF (i := 15) rfl [0, 1, 2, 3] [0] rfl rfl rfl rfl⟩
    ·intro L a w hL hv
     rw [allTrue hL] at hv
     obtain ⟨v6, v7, hs⟩ := hv
     refine gZ hs [27, 28, 29, 40, 43] [3] [0] rfl rfl rfl rfl ?_
     clear hs hL
     obtain ⟨word6, hx8, h⟩ := ob_e h
     refine TA_exP htb (by kernel_rfl) rfl rfl (OpT_call (w_blk_word hx8) [0] [] rfl rfl rfl rfl rfl callee24 rfl rfl rfl rfl) ?_
     rintro _ ⟨v8, _, _, ⟨_, rfl, rfl, rfl⟩, rfl⟩
     refine TA_step htb (by kernel_rfl) rfl rfl (OpT_assign rfl rfl rfl rfl) ?_
     refine TA_end rfl ?_
     refine tZ [27, 28, 29, 5] [1] [0] rfl rfl rfl rfl ?_
     refine Tk_blk (Tk_region (Tops_step rfl (OpT_bin rfl rfl rfl rfl rfl (bin_add_i (a := x1) (b := (1 : Int)))) ?_))
     refine Tops_step rfl (OpT_move rfl rfl rfl rfl) ?_
     refine Tops_nil (tZ [27, 28, 29, 5] [0] [0] rfl rfl rfl rfl ?_)
     exact Tk_backS (word6, wi (x1 + (1 : Int)), v8) h [5, 27, 28, 29] [0] [0] rfl rfl rfl rfl rfl
   ·replace h := br_f hg2 h
    refine Tk_condF (congrArg (fun b => some (Value.bool b)) hg2) ?_
    refine Tk_exit _ rfl ?_
    refine Tk_seq (Tk_region (Tops_step rfl (OpT_move rfl rfl rfl rfl) ?_))
    refine Tops_step rfl (OpT_assign rfl rfl rfl rfl) ?_
    refine Tops_step rfl (OpT_assign rfl rfl rfl rfl) ?_
    refine Tops_nil (tZ [2, 3] [0] [] rfl rfl rfl rfl ?_)
    obtain rfl := Option.some.inj h
    exact Tk_retV rfl rfl (resA (vs := [v5, vI (0 : Int)]) rfl ⟨rfl, rfl, trivial⟩) [0] [] rfl rfl rfl ⟨v5, rfl, rfl, rfl⟩

set_option maxRecDepth 100000 in
set_option maxHeartbeats 4000000 in
theorem w_blk_number {b : List UInt8} {vb1 : Value} {r : UInt64} (h : blk_number b = some r) :
  Ctr Try.prog 25 #[vb1] [] [Fact.sl u8S vb1 b]
   (fun rv own shr => rv = vU64 r ∧ own = [] ∧ shr = []) := by
 unfold blk_number at h
 refine Ctr.mk (args := [vb1]) Try.func25 rfl rfl (fun R0 w0 B => ?_)
 refine Tk_seq (Tk_region (Tops_step rfl (OpT_assign rfl rfl rfl rfl) ?_))
 refine Tops_nil (tZ [0] [] [0] rfl rfl rfl rfl ?_)
 refine Tk_seq (Tk_region (Tops_step rfl (OpT_assign rfl rfl rfl rfl) ?_))
 refine Tops_nil (Tk_seq (Tk_seq (Tk_region (Tops_step rfl (OpT_move rfl rfl rfl rfl) ?_))))
 refine Tops_step rfl (OpT_lenS rfl rfl rfl rfl Try.underlying26 (i := 0) rfl) ?_
 refine Tops_step rfl (OpT_bin rfl rfl rfl rfl rfl (bin_sub_i (a := len b) (b := (1 : Int)))) ?_
 refine Tops_step rfl (OpT_assign rfl rfl rfl rfl) ?_
 refine Tops_nil (tZ [0, 3, 4] [] [0] rfl rfl rfl rfl ?_)
 refine Tk_block (Tk_loopS (σ := UInt64 × Int) [0, 3, 4] [] [0] (fun s => ⟨[(0, some (vb1)), (3, some (vU64 s.1)), (4, some (vI s.2))], [], [Fact.sl u8S vb1 b]⟩) (fun nf1 s => blk_numberL1 b nf1 s.1 s.2 = some r) fuel ((0 : UInt64), wi ((len b) - (1 : Int))) h rfl rfl rfl rfl rfl (fun s h => by cases h) ?_)
 rintro nf1 ⟨v1, i1⟩ h
 replace h : blk_numberL1B b (blk_numberL1 b nf1) v1 i1 = some r := h
 unfold blk_numberL1B at h
 refine Tk_seq (Tk_seq (Tk_region (Tops_step rfl (OpT_move rfl rfl rfl rfl) ?_)))
 refine Tops_step rfl (OpT_bin rfl rfl rfl rfl rfl (bin_geq_i (a := i1) (b := (0 : Int)))) ?_
 refine Tops_nil (tZ [0, 3, 4, 9] [] [0] rfl rfl rfl rfl ?_)
 rcases Bool.eq_false_or_eq_true (decide (i1 ≥ (0 : Int))) with hg1 | hg1
 ·replace h := br_t hg1 h
  refine Tk_condT (congrArg (fun b => some (Value.bool b)) hg1) ?_
  refine Tk_skip (Tk_seq (Tk_block (Tk_region (Tops_step rfl (OpT_move rfl rfl rfl rfl) ?_))))
  refine Tops_step rfl (OpT_bin rfl rfl rfl rfl rfl (bin_shl_u64_u64 (a := v1) (n := (8 : UInt64)))) ?_
  refine Tops_step rfl (OpT_move rfl rfl rfl rfl) ?_
  refine Tops_step rfl (OpT_move rfl rfl rfl rfl) ?_
  obtain ⟨y1, hx1, h⟩ := ob_e h
  refine Tops_ex rfl (OpT_idxS rfl rfl rfl rfl rfl slF26 (i := 0) rfl hx1) fun p1 => ?_
  refine Tops_step rfl (OpT_loadP rfl rfl rfl rfl tyF5 (i := 1) rfl rfl) ?_
  refine Tops_step rfl (OpT_cnv rfl rfl rfl rfl (cnv_u8_u64 (n := y1) Try.underlying5 Try.underlying30)) ?_
  refine Tops_step rfl (OpT_bin rfl rfl rfl rfl rfl (bin_or_u64 (a := shl64 v1 ((8 : UInt64).toNat)) (b := y1.toUInt64))) ?_
  refine Tops_step rfl (OpT_assign rfl rfl rfl rfl) ?_
  refine Tops_nil (tZ [0, 3, 4] [] [0] rfl rfl rfl rfl ?_)
  refine Tk_blk (Tk_region (Tops_step rfl (OpT_move rfl rfl rfl rfl) ?_))
  refine Tops_step rfl (OpT_bin rfl rfl rfl rfl rfl (bin_sub_i (a := i1) (b := (1 : Int)))) ?_
  refine Tops_step rfl (OpT_assign rfl rfl rfl rfl) ?_
  refine Tops_nil (tZ [0, 3, 4] [] [0] rfl rfl rfl rfl ?_)
  exact Tk_backS ((shl64 v1 ((8 : UInt64).toNat)) ||| y1.toUInt64, wi (i1 - (1 : Int))) h [0, 3, 4] [] [0] rfl rfl rfl rfl rfl
 ·replace h := br_f hg1 h
  refine Tk_condF (congrArg (fun b => some (Value.bool b)) hg1) ?_
  refine Tk_exit _ rfl ?_
  refine Tk_seq (Tk_region (Tops_step rfl (OpT_move rfl rfl rfl rfl) ?_))
  refine Tops_step rfl (OpT_assign rfl rfl rfl rfl) ?_
  refine Tops_nil (tZ [2] [] [] rfl rfl rfl rfl ?_)
  obtain rfl := Option.some.inj h
  exact Tk_retV rfl rfl (resA (vs := [vU64 v1]) rfl ⟨rfl, trivial⟩) [] [] rfl rfl rfl ⟨rfl, rfl, rfl⟩

set_option maxRecDepth 100000 in
set_option maxHeartbeats 4000000 in
theorem w_blk_Read {b : List UInt8} {vb1 : Value} {r : (Req × Int)} (h : blk_Read b = some r) :
  Ctr Try.prog 9 #[vb1] [] [Fact.sl u8S vb1 b]
   (fun rv own shr => ∃ (w1 : Value), ∃ (w2 : Value), rv = .tuple #[.agg #[vU32 r.1.Type_, vU64 r.1.Sector, w1, vI r.1.Room, w2], vI r.2] ∧ own = [(rowS u8S w1 r.1.Data), (rowS RangeS w2 r.1.Ranges)] ∧ shr = []) := by
 unfold blk_Read at h
 refine Ctr.mk (args := [vb1]) Try.func9 rfl rfl (fun R0 w0 B => ?_)
 refine Tk_seq (Tk_region (Tops_ex rfl (OpT_alloc rfl rfl rfl tyZ35) fun b1 => ?_))
 refine Tops_step rfl (OpT_assign rfl rfl rfl rfl) ?_
 refine Tops_nil (tZ [0, 2] [0] [0] rfl rfl rfl rfl ?_)
 refine Tk_seq (Tk_seq (Tk_region (Tops_step rfl (OpT_move rfl rfl rfl rfl) ?_)))
 refine Tops_step rfl (OpT_lenS rfl rfl rfl rfl Try.underlying26 (i := 0) rfl) ?_
 refine Tops_step rfl (OpT_bin rfl rfl rfl rfl rfl (bin_lss_i (a := len b) (b := (16 : Int)))) ?_
 refine Tops_nil (tZ [0, 2, 6] [0] [0] rfl rfl rfl rfl ?_)
 rcases Bool.eq_false_or_eq_true (decide ((len b) < (16 : Int))) with hg1 | hg1
 ·replace h := br_t hg1 h
  refine Tk_condT (congrArg (fun b => some (Value.bool b)) hg1) ?_
  refine Tk_seq (Tk_region (Tops_step rfl (OpT_build (v := .agg #[vU32 (0 : UInt32), vU64 (0 : UInt64), .slice none 0 0, vI (0 : Int), .slice none 0 0]) rfl rfl rfl rfl (bldV (by kernel_rfl))) ?_))
  refine Tops_step rfl (OpT_storeC (cs' := [vU32 (0 : UInt32), vU64 (0 : UInt64), .slice none 0 0, vI (0 : Int), .slice none 0 0]) rfl rfl rfl rfl tyF35 (i := 0) rfl rfl rfl (one_of rfl) rfl) ?_
  refine Tops_step rfl (OpT_assign rfl rfl rfl rfl) ?_
  refine Tops_nil (tZ [2, 3] [0] [] rfl rfl rfl rfl ?_)
  refine Tk_nilrow u8S ?_
  refine Tk_nilrow RangeS ?_
  obtain rfl := Option.some.inj h
  exact Tk_retV rfl rfl (resA (vs := [.agg #[vU32 (0 : UInt32), vU64 (0 : UInt64), .slice none 0 0, vI (0 : Int), .slice none 0 0], vI (2 : Int)]) rfl ⟨⟨_, 0, _, _, _, rfl, rfl, .inl ⟨tyF35, rfl, rfl⟩⟩, rfl, trivial⟩) [1, 2] [] rfl rfl rfl ⟨(.slice none 0 0), (.slice none 0 0), rfl, rfl, rfl⟩
 ·replace h := br_f hg1 h
  refine Tk_condF (congrArg (fun b => some (Value.bool b)) hg1) ?_
  refine Tk_skip (Tk_seq (Tk_drawT (by kernel_rfl) ?_))
  refine TA_tb [0, 1, 3, 7, 0, 16, 55, 0, 0, 256, 1015, 2047, 4095, 8191] (by kernel_rfl) fun htb => ?_
  refine aZ [0, 2] [0] [0] rfl rfl rfl rfl ?_
  obtain ⟨hc1, h⟩ := chk_e h
  obtain ⟨number1, hx1, h⟩ := ob_e h
  obtain ⟨hc2, h⟩ := chk_e h
  obtain ⟨number2, hx2, h⟩ := ob_e h
  obtain ⟨hc3, h⟩ := chk_e h
  obtain ⟨hc4, h⟩ := chk_e h
  refine TA_seg (lo := 0) (hi := 11) htb rfl rfl (by kernel_rfl) (fun c L a w => ∃ (v1 : Value), ∃ (v2 : Value), ∃ (v3 : Value), ∃ (v4 : Value), ∃ (v5 : Value), Sat c ⟨[(0, some (vb1)), (2, some (.pointer (some ⟨b1, 0, none⟩))), (8, bif L 0 then some (vb1) else none), (9, bif L 1 then some (v1) else none), (10, bif L 2 then some (vU64 number1) else none), (11, bif L 3 then some (vU32 number1.toUInt32) else none), (12, bif L 4 then some (vb1) else none), (13, bif L 5 then some (v2) else none), (14, bif L 6 then some (vU64 number2) else none), (15, bif L 7 then some (v3) else none), (16, bif L 8 then some (vb1) else none), (17, bif L 9 then some (v4) else none), (18, bif L 10 then some (v5) else none)], [(some (cellsR b1 35 [vU32 (0 : UInt32), vU64 (0 : UInt64), .slice none 0 0, vI (0 : Int), .slice none 0 0]) : Option Res), (bif L 10 then some (rowS u8S v5 (sub b (16 : Int) (len b))) else bif L 7 then some (rowS u8S v3 ([] : List UInt8)) else none : Option Res)], [Fact.sl u8S vb1 b, (bif L 1 then Fact.sl u8S v1 (sub b (0 : Int) (4 : Int)) else Fact.tt), (bif L 5 then Fact.sl u8S v2 (sub b (8 : Int) (16 : Int)) else Fact.tt), (bif L 9 then Fact.sl u8S v4 (sub b (16 : Int) (len b)) else Fact.tt)]⟩ a w) [([], [1, 2, 3, 6, 10]), ([0], [2, 3, 6, 10]), ([0, 1], [3, 6, 10]), ([0, 1, 2], []), ([], [5, 6, 10]), ([4], [6, 10]), ([0, 1, 2, 4, 5], [10]), ([], [10]), ([], [9, 10]), ([8], [10]), ([0, 1, 2, 4, 5, 6, 7, 8, 9], [])] rfl (by kernel_rfl) ?_ (steps_cons ?_ (steps_cons ?_ (steps_cons ?_ (steps_cons ?_ (steps_cons ?_ (steps_cons ?_ (steps_cons ?_ (steps_cons ?_ (steps_cons ?_ (steps_cons ?_ (steps_cons ?_ (steps_nil)))))))))))) ?_
  ·intro a w hs
   exact ⟨undef, undef, undef, undef, undef, hs.startF [8, 9, 10, 11, 12, 13, 14, 15, 16, 17, 18] [0, 1] [0, 1, 2, 3] rfl rfl rfl rfl⟩
  ·intro L a w hv K Q hK
   obtain ⟨v1, v2, v3, v4, v5, hs⟩ := hv
   refine wpOp_go rfl rfl hs (OpT_move rfl rfl rfl rfl) ?_
   rintro _ rfl a' w' hs'
   exact hK a' w' ⟨v1, v2, v3, v4, v5, hs'.putF (i := 2) rfl [0, 1] [0, 1, 2, 3] rfl rfl rfl rfl⟩
  ·intro L a w hv K Q hK
   obtain ⟨v1, v2, v3, v4, v5, hs⟩ := hv
   refine wpOp_go rfl rfl hs (OpT_sliceH (m := (4 : Int)) rfl rfl rfl rfl rfl slF26 (i := 0) rfl hc1) ?_
   rintro _ ⟨v1', rfl⟩ a' w' hs'
   exact hK a' w' ⟨v1', v2, v3, v4, v5, hs'.putF (i := 3) rfl [0, 1] [0, 4, 2, 3] rfl rfl rfl rfl⟩
  ·intro L a w hv K Q hK
   obtain ⟨v1, v2, v3, v4, v5, hs⟩ := hv
   refine wpOp_go rfl rfl hs (OpT_call (w_blk_number hx1) [] [1] rfl rfl rfl rfl rfl callee25 rfl rfl rfl rfl) ?_
   rintro _ ⟨_, _, _, ⟨rfl, rfl, rfl⟩, rfl⟩ a' w' hs'
   exact hK a' w' ⟨v1, v2, v3, v4, v5, hs'.putF (i := 4) rfl [0, 1] [0, 1, 2, 3] rfl rfl rfl rfl⟩
  ·intro L a w hv K Q hK
   obtain ⟨v1, v2, v3, v4, v5, hs⟩ := hv
   refine wpOp_go rfl rfl hs (OpT_cnv rfl rfl rfl rfl (cnv_u64_u32 (n := number1) Try.underlying30 Try.underlying29)) ?_
   rintro _ rfl a' w' hs'
   exact hK a' w' ⟨v1, v2, v3, v4, v5, hs'.putF (i := 5) rfl [0, 1] [0, 1, 2, 3] rfl rfl rfl rfl⟩
  ·intro L a w hv K Q hK
   obtain ⟨v1, v2, v3, v4, v5, hs⟩ := hv
   refine wpOp_go rfl rfl hs (OpT_move rfl rfl rfl rfl) ?_
   rintro _ rfl a' w' hs'
   exact hK a' w' ⟨v1, v2, v3, v4, v5, hs'.putF (i := 6) rfl [0, 1] [0, 1, 2, 3] rfl rfl rfl rfl⟩
  ·intro L a w hv K Q hK
   obtain ⟨v1, v2, v3, v4, v5, hs⟩ := hv
   refine wpOp_go rfl rfl hs (OpT_sliceLH (l := (8 : Int)) (m := (16 : Int)) rfl rfl rfl rfl rfl rfl slF26 (i := 0) rfl hc2) ?_
   rintro _ ⟨v2', rfl⟩ a' w' hs'
   exact hK a' w' ⟨v1, v2', v3, v4, v5, hs'.putF (i := 7) rfl [0, 1] [0, 1, 4, 3] rfl rfl rfl rfl⟩
  ·intro L a w hv K Q hK
   obtain ⟨v1, v2, v3, v4, v5, hs⟩ := hv
   refine wpOp_go rfl rfl hs (OpT_call (w_blk_number hx2) [] [2] rfl rfl rfl rfl rfl callee25 rfl rfl rfl rfl) ?_
   rintro _ ⟨_, _, _, ⟨rfl, rfl, rfl⟩, rfl⟩ a' w' hs'
   exact hK a' w' ⟨v1, v2, v3, v4, v5, hs'.putF (i := 8) rfl [0, 1] [0, 1, 2, 3] rfl rfl rfl rfl⟩
  ·intro L a w hv K Q hK
   obtain ⟨v1, v2, v3, v4, v5, hs⟩ := hv
   refine wpOp_go rfl rfl hs (OpT_buildSlice (S := u8S) (xs := ([] : List UInt8)) (css := []) (cs := []) (e := 5) rfl rfl rfl rfl (bldF slF26 (by decide) (by kernel_rfl)) rfl rfl rfl rfl (rel_plainD (S := u8S) (xs := ([] : List UInt8)) (css := []) rfl rfl)) ?_
   rintro _ ⟨v3', rfl⟩ a' w' hs'
   exact hK a' w' ⟨v1, v2, v3', v4, v5, hs'.putF (i := 9) rfl [0, 2] [0, 1, 2, 3] rfl rfl rfl rfl⟩
  ·intro L a w hv K Q hK
   obtain ⟨v1, v2, v3, v4, v5, hs⟩ := hv
   refine wpOp_go rfl rfl hs (OpT_move rfl rfl rfl rfl) ?_
   rintro _ rfl a' w' hs'
   exact hK a' w' ⟨v1, v2, v3, v4, v5, hs'.putF (i := 10) rfl [0, 1] [0, 1, 2, 3] rfl rfl rfl rfl⟩
  ·intro L a w hv K Q hK
   obtain ⟨v1, v2, v3, v4, v5, hs⟩ := hv
   refine wpOp_go rfl rfl hs (OpT_sliceL (l := (16 : Int)) rfl rfl rfl rfl rfl slF26 (i := 0) rfl hc3) ?_
   rintro _ ⟨v4', rfl⟩ a' w' hs'
   exact hK a' w' ⟨v1, v2, v3, v4', v5, hs'.putF (i := 11) rfl [0, 1] [0, 1, 2, 4] rfl rfl rfl rfl⟩
  ·intro L a w hv K Q hK
   obtain ⟨v1, v2, v3, v4, v5, hs⟩ := hv
   refine wpOp_go rfl rfl hs (OpT_nil0 (OpT_append rfl rfl rfl rfl rfl slF26 (i := 1) (j := 3) rfl rfl hc4)) ?_
   rintro _ ⟨v5', rfl⟩ a' w' hs'
   exact hK a' w' ⟨v1, v2, v3, v4, v5', hs'.putF (i := 12) rfl [0, 1] [0, 1, 2, 3] rfl rfl rfl rfl⟩
  ·intro L a w hL hv
   rw [allTrue hL] at hv
   obtain ⟨v1, v2, v3, v4, v5, hs⟩ := hv
   refine gZ hs [2, 11, 14, 18] [0, 1] [] rfl rfl rfl rfl ?_
   clear hs hL
   refine TA_step htb (by kernel_rfl) rfl rfl (OpT_build1 (fun z0 => [(0, vU32 number1.toUInt32), (1, vU64 number2), (2, z0)]) (fun z0 => [vU32 number1.toUInt32, vU64 number2, z0, vI (0 : Int), .slice none 0 0]) rfl rfl rfl rfl (is_row (i := 1) rfl) (by intros; kernel_rfl)) ?_
   refine TA_step htb (by kernel_rfl) rfl rfl (OpT_storeA1 (fun z0 => [vU32 number1.toUInt32, vU64 number2, z0, vI (0 : Int), .slice none 0 0]) (cs' := [vU32 number1.toUInt32, vU64 number2, v5, vI (0 : Int), .slice none 0 0]) rfl rfl rfl rfl tyF35 (i := 0) rfl (is_row (i := 1) rfl) (fun _ _ _ => rfl) rfl rfl rfl) ?_
   refine TA_step htb (by kernel_rfl) rfl rfl (OpT_assign rfl rfl rfl rfl) ?_
   refine TA_end rfl ?_
   refine tZ [2, 3] [0, 1] [] rfl rfl rfl rfl ?_
   refine Tk_nilrow RangeS ?_
   obtain rfl := Option.some.inj h
   exact Tk_retV rfl rfl (resA (vs := [.agg #[vU32 number1.toUInt32, vU64 number2, v5, vI (0 : Int), .slice none 0 0], vI (0 : Int)]) rfl ⟨⟨_, 0, _, _, _, rfl, rfl, .inl ⟨tyF35, rfl, rfl⟩⟩, rfl, trivial⟩) [1, 2] [] rfl rfl rfl ⟨v5, (.slice none 0 0), rfl, rfl, rfl⟩

set_option maxRecDepth 100000 in
set_option maxHeartbeats 4000000 in
theorem w_blk_kind_does {kp0 : UInt32} {r : Nat} (h : blk_kind_does kp0 = some r) :
  Ctr Try.prog 26 #[vU32 kp0] [] []
   (fun rv own shr => rv = .func (.func r) #[] #[] ∧ own = [] ∧ shr = []) := by
 unfold blk_kind_does at h
 refine Ctr.mk (args := [vU32 kp0]) Try.func26 rfl rfl (fun R0 w0 B => ?_)
 refine Tk_seq (Tk_region (Tops_step rfl (OpT_assign rfl rfl rfl rfl) ?_))
 refine Tops_nil (tZ [0] [] [] rfl rfl rfl rfl ?_)
 refine Tk_seq (Tk_seq (Tk_region (Tops_step rfl (OpT_move rfl rfl rfl rfl) ?_)))
 refine Tops_nil (tZ [3] [] [] rfl rfl rfl rfl ?_)
 refine Tk_block (Tk_seq (Tk_region (Tops_step rfl (OpT_bin rfl rfl rfl rfl rfl (bin_eql_u32 (a := kp0) (b := (0 : UInt32)))) ?_)))
 refine Tops_step rfl (OpT_assign rfl rfl rfl rfl) ?_
 refine Tops_nil (tZ [3, 4] [] [] rfl rfl rfl rfl ?_)
 rcases Bool.eq_false_or_eq_true (kp0 == (0 : UInt32)) with hg1 | hg1
 ·replace h := br_t hg1 h
  refine Tk_condT (congrArg (fun b => some (Value.bool b)) hg1) ?_
  refine Tk_seq (Tk_region (Tops_step rfl (OpT_assign rfl rfl rfl rfl) ?_))
  refine Tops_nil (tZ [2] [] [] rfl rfl rfl rfl ?_)
  obtain rfl := Option.some.inj h
  exact Tk_retV rfl rfl (resA (vs := [.func (.func 38) #[] #[]]) rfl ⟨rfl, trivial⟩) [] [] rfl rfl rfl ⟨rfl, rfl, rfl⟩
 ·replace h := br_f hg1 h
  refine Tk_condF (congrArg (fun b => some (Value.bool b)) hg1) ?_
  refine Tk_seq (Tk_region (Tops_step rfl (OpT_bin rfl rfl rfl rfl rfl (bin_eql_u32 (a := kp0) (b := (1 : UInt32)))) ?_))
  refine Tops_step rfl (OpT_assign rfl rfl rfl rfl) ?_
  refine Tops_nil (tZ [3, 6] [] [] rfl rfl rfl rfl ?_)
  rcases Bool.eq_false_or_eq_true (kp0 == (1 : UInt32)) with hg2 | hg2
  ·replace h := br_t hg2 h
   refine Tk_condT (congrArg (fun b => some (Value.bool b)) hg2) ?_
   refine Tk_seq (Tk_region (Tops_step rfl (OpT_assign rfl rfl rfl rfl) ?_))
   refine Tops_nil (tZ [2] [] [] rfl rfl rfl rfl ?_)
   obtain rfl := Option.some.inj h
   exact Tk_retV rfl rfl (resA (vs := [.func (.func 39) #[] #[]]) rfl ⟨rfl, trivial⟩) [] [] rfl rfl rfl ⟨rfl, rfl, rfl⟩
  ·replace h := br_f hg2 h
   refine Tk_condF (congrArg (fun b => some (Value.bool b)) hg2) ?_
   refine Tk_seq (Tk_region (Tops_step rfl (OpT_bin rfl rfl rfl rfl rfl (bin_eql_u32 (a := kp0) (b := (4 : UInt32)))) ?_))
   refine Tops_step rfl (OpT_assign rfl rfl rfl rfl) ?_
   refine Tops_nil (tZ [3, 8] [] [] rfl rfl rfl rfl ?_)
   rcases Bool.eq_false_or_eq_true (kp0 == (4 : UInt32)) with hg3 | hg3
   ·replace h := br_t hg3 h
    refine Tk_condT (congrArg (fun b => some (Value.bool b)) hg3) ?_
    refine Tk_seq (Tk_region (Tops_step rfl (OpT_assign rfl rfl rfl rfl) ?_))
    refine Tops_nil (tZ [2] [] [] rfl rfl rfl rfl ?_)
    obtain rfl := Option.some.inj h
    exact Tk_retV rfl rfl (resA (vs := [.func (.func 40) #[] #[]]) rfl ⟨rfl, trivial⟩) [] [] rfl rfl rfl ⟨rfl, rfl, rfl⟩
   ·replace h := br_f hg3 h
    refine Tk_condF (congrArg (fun b => some (Value.bool b)) hg3) ?_
    refine Tk_seq (Tk_region (Tops_step rfl (OpT_bin rfl rfl rfl rfl rfl (bin_eql_u32 (a := kp0) (b := (8 : UInt32)))) ?_))
    refine Tops_step rfl (OpT_assign rfl rfl rfl rfl) ?_
    refine Tops_nil (tZ [3, 10] [] [] rfl rfl rfl rfl ?_)
    rcases Bool.eq_false_or_eq_true (kp0 == (8 : UInt32)) with hg4 | hg4
    ·replace h := br_t hg4 h
     refine Tk_condT (congrArg (fun b => some (Value.bool b)) hg4) ?_
     refine Tk_seq (Tk_region (Tops_step rfl (OpT_assign rfl rfl rfl rfl) ?_))
     refine Tops_nil (tZ [2] [] [] rfl rfl rfl rfl ?_)
     obtain rfl := Option.some.inj h
     exact Tk_retV rfl rfl (resA (vs := [.func (.func 41) #[] #[]]) rfl ⟨rfl, trivial⟩) [] [] rfl rfl rfl ⟨rfl, rfl, rfl⟩
    ·replace h := br_f hg4 h
     refine Tk_condF (congrArg (fun b => some (Value.bool b)) hg4) ?_
     refine Tk_seq (Tk_region (Tops_step rfl (OpT_bin rfl rfl rfl rfl rfl (bin_eql_u32 (a := kp0) (b := (11 : UInt32)))) ?_))
     refine Tops_step rfl (OpT_assign rfl rfl rfl rfl) ?_
     refine Tops_nil (tZ [3, 12] [] [] rfl rfl rfl rfl ?_)
     rcases Bool.eq_false_or_eq_true (kp0 == (11 : UInt32)) with hg5 | hg5
     ·replace h := br_t hg5 h
      refine Tk_condT (congrArg (fun b => some (Value.bool b)) hg5) ?_
      refine Tk_seq (Tk_region (Tops_step rfl (OpT_assign rfl rfl rfl rfl) ?_))
      refine Tops_nil (tZ [2] [] [] rfl rfl rfl rfl ?_)
      obtain rfl := Option.some.inj h
      exact Tk_retV rfl rfl (resA (vs := [.func (.func 42) #[] #[]]) rfl ⟨rfl, trivial⟩) [] [] rfl rfl rfl ⟨rfl, rfl, rfl⟩
     ·replace h := br_f hg5 h
      refine Tk_condF (congrArg (fun b => some (Value.bool b)) hg5) ?_
      refine Tk_seq (Tk_region (Tops_step rfl (OpT_bin rfl rfl rfl rfl rfl (bin_eql_u32 (a := kp0) (b := (13 : UInt32)))) ?_))
      refine Tops_step rfl (OpT_assign rfl rfl rfl rfl) ?_
      refine Tops_nil (tZ [14] [] [] rfl rfl rfl rfl ?_)
      rcases Bool.eq_false_or_eq_true (kp0 == (13 : UInt32)) with hg6 | hg6
      ·replace h := br_t hg6 h
       refine Tk_condT (congrArg (fun b => some (Value.bool b)) hg6) ?_
       refine Tk_seq (Tk_region (Tops_step rfl (OpT_assign rfl rfl rfl rfl) ?_))
       refine Tops_nil (tZ [2] [] [] rfl rfl rfl rfl ?_)
       obtain rfl := Option.some.inj h
       exact Tk_retV rfl rfl (resA (vs := [.func (.func 44) #[] #[]]) rfl ⟨rfl, trivial⟩) [] [] rfl rfl rfl ⟨rfl, rfl, rfl⟩
      ·replace h := br_f hg6 h
       refine Tk_condF (congrArg (fun b => some (Value.bool b)) hg6) ?_
       refine Tk_skip (Tk_blk (Tk_seq (Tk_region (Tops_step rfl (OpT_assign rfl rfl rfl rfl) ?_))))
       refine Tops_nil (tZ [2] [] [] rfl rfl rfl rfl ?_)
       obtain rfl := Option.some.inj h
       exact Tk_retV rfl rfl (resA (vs := [.func (.func 45) #[] #[]]) rfl ⟨rfl, trivial⟩) [] [] rfl rfl rfl ⟨rfl, rfl, rfl⟩

set_option maxRecDepth 100000 in
set_option maxHeartbeats 4000000 in
theorem w_sectors_Store_Has {sp0 : sectors_Store} {atp1 : UInt64} {np2 : UInt64} {b_sp0 : Nat} {vsp01 : Value} {mb_sp0 : Nat} {r : Bool} (h : sectors_Store_Has sp0 atp1 np2 = some r) :
  Ctr Try.prog 46 #[.pointer (some ⟨b_sp0, 0, none⟩), vU64 atp1, vU64 np2] [(cellsR b_sp0 71 [vsp01, .map (some mb_sp0)]), (rowS secS vsp01 sp0.l), (mapR mb_sp0 .i64 (fun x : Int => x) vSec sp0.fresh)] []
   (fun rv own shr => rv = vB r ∧ own = [(cellsR b_sp0 71 [vsp01, .map (some mb_sp0)]), (rowS secS vsp01 sp0.l), (mapR mb_sp0 .i64 (fun x : Int => x) vSec sp0.fresh)] ∧ shr = []) := by
 unfold sectors_Store_Has at h
 refine Ctr.mk (args := [.pointer (some ⟨b_sp0, 0, none⟩), vU64 atp1, vU64 np2]) Try.func46 rfl rfl (fun R0 w0 B => ?_)
 refine Tk_seq (Tk_region (Tops_step rfl (OpT_assign rfl rfl rfl rfl) ?_))
 refine Tops_nil (tZ [0, 1, 2] [0, 1, 2] [] rfl rfl rfl rfl ?_)
 refine Tk_seq (Tk_seq (Tk_region (Tops_step rfl (OpT_move rfl rfl rfl rfl) ?_)))
 refine Tops_step rfl (OpT_ptrNil rfl rfl rfl (.inl rfl) rfl rfl ptrF22) ?_
 refine Tops_nil (tZ [0, 1, 2, 9] [0, 1, 2] [] rfl rfl rfl rfl ?_)
 refine Tk_condF rfl ?_
 refine Tk_skip (Tk_seq (Tk_region (Tops_step rfl (OpT_move rfl rfl rfl rfl) ?_)))
 refine Tops_step rfl (OpT_nilCheckP rfl rfl rfl rfl) ?_
 refine Tops_step rfl (OpT_fieldC rfl rfl rfl rfl fldF71x0) ?_
 refine Tops_step rfl (OpT_loadC rfl rfl rfl rfl tyF68 (i := 0) rfl rfl) ?_
 refine Tops_step rfl (OpT_lenO rfl rfl rfl rfl Try.underlying68 (i := 1) rfl) ?_
 refine Tops_step rfl (OpT_cnv rfl rfl rfl rfl (cnv_i_u64 (n := len sp0.l) Try.underlying3 Try.underlying30)) ?_
 refine Tops_step rfl (OpT_assign rfl rfl rfl rfl) ?_
 refine Tops_nil (tZ [1, 2, 7] [0, 1, 2] [] rfl rfl rfl rfl ?_)
 refine Tk_seq (Tk_region (Tops_step rfl (OpT_move rfl rfl rfl rfl) ?_))
 refine Tops_step rfl (OpT_move rfl rfl rfl rfl) ?_
 refine Tops_step rfl (OpT_bin rfl rfl rfl rfl rfl (bin_leq_u64 (a := atp1) (b := u64 (len sp0.l)))) ?_
 refine Tops_step rfl (OpT_move rfl rfl rfl rfl) ?_
 rcases Bool.eq_false_or_eq_true (decide (atp1 ≤ (u64 (len sp0.l)))) with hg1 | hg1
 ·replace h := br_t hg1 h
  refine Tops_yes rfl rfl (congrArg (fun b => some (Value.bool b)) hg1) (OpT_move rfl rfl rfl rfl) ?_
  rintro _ rfl
  refine Tops_yes rfl rfl (congrArg (fun b => some (Value.bool b)) hg1) (OpT_move rfl rfl rfl rfl) ?_
  rintro _ rfl
  refine Tops_yes rfl rfl (congrArg (fun b => some (Value.bool b)) hg1) (OpT_move rfl rfl rfl rfl) ?_
  rintro _ rfl
  refine Tops_yes rfl rfl (congrArg (fun b => some (Value.bool b)) hg1) (OpT_bin rfl rfl rfl rfl rfl (bin_sub_u64 (a := u64 (len sp0.l)) (b := atp1))) ?_
  rintro _ rfl
  refine Tops_yes rfl rfl (congrArg (fun b => some (Value.bool b)) hg1) (OpT_bin rfl rfl rfl rfl rfl (bin_leq_u64 (a := np2) (b := (u64 (len sp0.l)) - atp1))) ?_
  rintro _ rfl
  refine Tops_step rfl (OpT_pickT rfl rfl rfl (congrArg (fun b => some (Value.bool b)) hg1) rfl) ?_
  refine Tops_step rfl (OpT_assign rfl rfl rfl rfl) ?_
  refine Tops_nil (tZ [6] [0, 1, 2] [] rfl rfl rfl rfl ?_)
  obtain rfl := Option.some.inj h
  exact Tk_retV rfl rfl (resA (vs := [vB (decide (np2 ≤ ((u64 (len sp0.l)) - atp1)))]) rfl ⟨rfl, trivial⟩) [0, 1, 2] [] rfl rfl rfl ⟨rfl, rfl, rfl⟩
 ·replace h := br_f hg1 h
  refine Tops_no rfl rfl (congrArg (fun b => some (Value.bool b)) hg1) rfl rfl ?_
  refine Tops_no rfl rfl (congrArg (fun b => some (Value.bool b)) hg1) rfl rfl ?_
  refine Tops_no rfl rfl (congrArg (fun b => some (Value.bool b)) hg1) rfl rfl ?_
  refine Tops_no rfl rfl (congrArg (fun b => some (Value.bool b)) hg1) rfl rfl ?_
  refine Tops_no rfl rfl (congrArg (fun b => some (Value.bool b)) hg1) rfl rfl ?_
  refine Tops_step rfl (OpT_pickF rfl rfl rfl (congrArg (fun b => some (Value.bool b)) hg1) rfl) ?_
  refine Tops_step rfl (OpT_assign rfl rfl rfl rfl) ?_
  refine Tops_nil (tZ [6] [0, 1, 2] [] rfl rfl rfl rfl ?_)
  obtain rfl := Option.some.inj h
  exact Tk_retV rfl rfl (resA (vs := [vB false]) rfl ⟨rfl, trivial⟩) [0, 1, 2] [] rfl rfl rfl ⟨rfl, rfl, rfl⟩

set_option maxRecDepth 100000 in
set_option maxHeartbeats 4000000 in
theorem w_sectors_Store_Read {sp0 : sectors_Store} {atp1 : UInt64} {np2 : Int} {b_sp0 : Nat} {vsp01 : Value} {mb_sp0 : Nat} {r : ((List UInt8) × Int × sectors_Store)} (h : sectors_Store_Read sp0 atp1 np2 = some r) :
  Ctr Try.prog 28 #[.pointer (some ⟨b_sp0, 0, none⟩), vU64 atp1, vI np2] [(cellsR b_sp0 71 [vsp01, .map (some mb_sp0)]), (rowS secS vsp01 sp0.l), (mapR mb_sp0 .i64 (fun x : Int => x) vSec sp0.fresh)] []
   (fun rv own shr => ∃ (w1 : Value), ∃ (w2 : Value), rv = .tuple #[w1, vI r.2.1] ∧ own = [(cellsR b_sp0 71 [w2, .map (some mb_sp0)]), (rowS secS w2 r.2.2.l), (mapR mb_sp0 .i64 (fun x : Int => x) vSec r.2.2.fresh), (rowS u8S w1 r.1)] ∧ shr = []) := by
 unfold sectors_Store_Read at h
 refine Ctr.mk (args := [.pointer (some ⟨b_sp0, 0, none⟩), vU64 atp1, vI np2]) Try.func28 rfl rfl (fun R0 w0 B => ?_)
 refine Tk_seq (Tk_region (Tops_step rfl (OpT_assign rfl rfl rfl rfl) ?_))
 refine Tops_step rfl (OpT_assign rfl rfl rfl rfl) ?_
 refine Tops_nil (tZ [0, 1, 2] [0, 1, 2] [] rfl rfl rfl rfl ?_)
 refine Tk_seq (Tk_block (Tk_seq (Tk_region (Tops_step rfl (OpT_move rfl rfl rfl rfl) ?_))))
 refine Tops_step rfl (OpT_ptrNil rfl rfl rfl (.inl rfl) rfl rfl ptrF22) ?_
 refine Tops_step rfl (OpT_assign rfl rfl rfl rfl) ?_
 refine Tops_nil (tZ [0, 1, 2, 10] [0, 1, 2] [] rfl rfl rfl rfl ?_)
 refine Tk_condF rfl ?_
 refine Tk_seq (Tk_region (Tops_step rfl (OpT_move rfl rfl rfl rfl) ?_))
 refine Tops_step rfl (OpT_bin rfl rfl rfl rfl rfl (bin_lss_i (a := np2) (b := (0 : Int)))) ?_
 refine Tops_step rfl (OpT_assign rfl rfl rfl rfl) ?_
 refine Tops_nil (tZ [0, 1, 2, 13] [0, 1, 2] [] rfl rfl rfl rfl ?_)
 rcases Bool.eq_false_or_eq_true (decide (np2 < (0 : Int))) with hg1 | hg1
 ·replace h := br_t hg1 h
  refine Tk_condT (congrArg (fun b => some (Value.bool b)) hg1) ?_
  refine Tk_seq (Tk_region (Tops_step rfl (OpT_assign rfl rfl rfl rfl) ?_))
  refine Tops_step rfl (OpT_assign rfl rfl rfl rfl) ?_
  refine Tops_nil (tZ [6, 7] [0, 1, 2] [] rfl rfl rfl rfl ?_)
  refine Tk_nilrow u8S ?_
  obtain rfl := Option.some.inj h
  exact Tk_retV rfl rfl (resA (vs := [.slice none 0 0, vI (2 : Int)]) rfl ⟨rfl, rfl, trivial⟩) [0, 1, 2, 3] [] rfl rfl rfl ⟨(.slice none 0 0), vsp01, rfl, rfl, rfl⟩
 ·replace h := br_f hg1 h
  refine Tk_condF (congrArg (fun b => some (Value.bool b)) hg1) ?_
  refine Tk_seq (Tk_region (Tops_step rfl (OpT_move rfl rfl rfl rfl) ?_))
  refine Tops_step rfl (OpT_move rfl rfl rfl rfl) ?_
  refine Tops_step rfl (OpT_move rfl rfl rfl rfl) ?_
  refine Tops_step rfl (OpT_cnv rfl rfl rfl rfl (cnv_i_u64 (n := np2) Try.underlying3 Try.underlying30)) ?_
  obtain ⟨has1, hx1, h⟩ := ob_e h
  refine Tops_exP rfl (OpT_callP [3, 4, 5] (w_sectors_Store_Has hx1) [0, 1, 2] [] rfl rfl rfl rfl rfl callee46 rfl rfl rfl rfl rfl) ?_
  rintro _ ⟨_, _, _, ⟨rfl, rfl, rfl⟩, rfl⟩
  refine Tops_step rfl (OpT_not rfl rfl rfl rfl) ?_
  refine Tops_step rfl (OpT_assign rfl rfl rfl rfl) ?_
  refine Tops_nil (tZ [0, 1, 2, 16] [0, 1, 2] [] rfl rfl rfl rfl ?_)
  rcases Bool.eq_false_or_eq_true ((!has1)) with hg2 | hg2
  ·replace h := br_t hg2 h
   refine Tk_condT (congrArg (fun b => some (Value.bool b)) hg2) ?_
   refine Tk_seq (Tk_region (Tops_step rfl (OpT_assign rfl rfl rfl rfl) ?_))
   refine Tops_step rfl (OpT_assign rfl rfl rfl rfl) ?_
   refine Tops_nil (tZ [6, 7] [0, 1, 2] [] rfl rfl rfl rfl ?_)
   refine Tk_nilrow u8S ?_
   obtain rfl := Option.some.inj h
   exact Tk_retV rfl rfl (resA (vs := [.slice none 0 0, vI (5 : Int)]) rfl ⟨rfl, rfl, trivial⟩) [0, 1, 2, 3] [] rfl rfl rfl ⟨(.slice none 0 0), vsp01, rfl, rfl, rfl⟩
  ·replace h := br_f hg2 h
   refine Tk_condF (congrArg (fun b => some (Value.bool b)) hg2) ?_
   refine Tk_skip (Tk_blk (Tk_seq (Tk_region (Tops_step rfl (OpT_assign rfl rfl rfl rfl) ?_))))
   refine Tops_nil (tZ [0, 1, 2, 8] [0, 1, 2] [] rfl rfl rfl rfl ?_)
   refine Tk_seq (Tk_seq (Tk_region (Tops_step rfl (OpT_move rfl rfl rfl rfl) ?_)))
   refine Tops_step rfl (OpT_move rfl rfl rfl rfl) ?_
   refine Tops_nil (tZ [0, 1, 8, 23, 24] [0, 1, 2] [] rfl rfl rfl rfl ?_)
   refine Tk_block (Tk_nilrow u8S ?_)
   refine Tk_loopS (σ := (List Sec) × (List (Int × Sec)) × (List UInt8) × Int × Value × Value) [0, 1, 8, 23, 24] [0, 1, 2, 3] [] (fun s => ⟨[(0, some (.pointer (some ⟨b_sp0, 0, none⟩))), (1, some (vU64 atp1)), (8, some (s.2.2.2.2.2)), (23, some (vI np2)), (24, some (vI s.2.2.2.1))], [some (cellsR b_sp0 71 [s.2.2.2.2.1, .map (some mb_sp0)]), some (rowS secS s.2.2.2.2.1 s.1), some (mapR mb_sp0 .i64 (fun x : Int => x) vSec s.2.1), some (rowS u8S s.2.2.2.2.2 s.2.2.1)], []⟩) (fun nf1 s => sectors_Store_ReadL1 atp1 np2 nf1 s.1 s.2.1 s.2.2.1 s.2.2.2.1 = some r) fuel (sp0.l, sp0.fresh, [], (0 : Int), vsp01, (.slice none 0 0)) h rfl rfl rfl rfl rfl (fun s h => by cases h) ?_
   rintro nf1 ⟨l1, map1, out1, x1, v1, v2⟩ h
   replace h : sectors_Store_ReadL1B atp1 np2 (sectors_Store_ReadL1 atp1 np2 nf1) l1 map1 out1 x1 = some r := h
   unfold sectors_Store_ReadL1B at h
   refine Tk_seq (Tk_region (Tops_step rfl (OpT_bin rfl rfl rfl rfl rfl (bin_lss_i (a := x1) (b := np2))) ?_))
   refine Tops_nil (Tk_seq ?_)
   rcases Bool.eq_false_or_eq_true (decide (x1 < np2)) with hg3 | hg3
   ·replace h := br_t hg3 h
    refine Tk_condT (congrArg (fun b => some (Value.bool b)) hg3) ?_
    refine Tk_skip (Tk_seq (Tk_block (Tk_seq (Tk_region (Tops_step rfl (OpT_move rfl rfl rfl rfl) ?_)))))
    refine Tops_step rfl (OpT_assign rfl rfl rfl rfl) ?_
    refine Tops_nil (tZ [0, 1, 8, 23, 24, 9] [0, 1, 2, 3] [] rfl rfl rfl rfl ?_)
    refine Tk_region (Tops_step rfl (OpT_move rfl rfl rfl rfl) ?_)
    refine Tops_step rfl (OpT_move rfl rfl rfl rfl) ?_
    refine Tops_step rfl (OpT_nilCheckP rfl rfl rfl rfl) ?_
    refine Tops_step rfl (OpT_fieldC rfl rfl rfl rfl fldF71x0) ?_
    refine Tops_step rfl (OpT_loadC rfl rfl rfl rfl tyF68 (i := 0) rfl rfl) ?_
    refine Tops_step rfl (OpT_move rfl rfl rfl rfl) ?_
    refine Tops_step rfl (OpT_cnv rfl rfl rfl rfl (cnv_u64_i (n := atp1) Try.underlying30 Try.underlying3)) ?_
    refine Tops_step rfl (OpT_move rfl rfl rfl rfl) ?_
    refine Tops_step rfl (OpT_bin rfl rfl rfl rfl rfl (bin_add_i (a := i64 atp1) (b := x1))) ?_
    obtain ⟨s1, hx2, h⟩ := ob_e h
    refine Tops_step rfl (OpT_idxO rfl rfl rfl rfl rfl slF68 (i := 1) rfl hx2) ?_
    refine Tops_step rfl (OpT_sliceElt rfl rfl rfl rfl arrF83 (i := 1) rfl hx2) ?_
    obtain ⟨hc1, h⟩ := chk_e h
    refine Tops_ex rfl (OpT_appendE rfl rfl rfl rfl rfl slF26 (i := 3) (j := 1) rfl rfl hx2 hc1) fun v3 => ?_
    refine Tops_step rfl (OpT_assign rfl rfl rfl rfl) ?_
    refine Tops_nil (tZ [0, 1, 8, 23, 24] [0, 1, 2, 3] [] rfl rfl rfl rfl ?_)
    refine Tk_blk (Tk_region (Tops_step rfl (OpT_bin rfl rfl rfl rfl rfl (bin_add_i (a := x1) (b := (1 : Int)))) ?_))
    refine Tops_step rfl (OpT_move rfl rfl rfl rfl) ?_
    refine Tops_nil (tZ [0, 1, 8, 23, 24] [0, 1, 2, 3] [] rfl rfl rfl rfl ?_)
    exact Tk_backS (l1, map1, out1 ++ s1.l, wi (x1 + (1 : Int)), v1, v3) h [0, 1, 8, 23, 24] [0, 1, 2, 3] [] rfl rfl rfl rfl rfl
   ·replace h := br_f hg3 h
    refine Tk_condF (congrArg (fun b => some (Value.bool b)) hg3) ?_
    refine Tk_exit _ rfl ?_
    refine Tk_seq (Tk_region (Tops_step rfl (OpT_move rfl rfl rfl rfl) ?_))
    refine Tops_step rfl (OpT_assign rfl rfl rfl rfl) ?_
    refine Tops_step rfl (OpT_assign rfl rfl rfl rfl) ?_
    refine Tops_nil (tZ [6, 7] [0, 1, 2, 3] [] rfl rfl rfl rfl ?_)
    obtain rfl := Option.some.inj h
    exact Tk_retV rfl rfl (resA (vs := [v2, vI (0 : Int)]) rfl ⟨rfl, rfl, trivial⟩) [0, 1, 2, 3] [] rfl rfl rfl ⟨v2, v1, rfl, rfl, rfl⟩

set_option maxRecDepth 100000 in
set_option maxHeartbeats 4000000 in
theorem w_blk_work_in {wp0 : blk_work} {wp0_s : sectors_Store} {b_wp0 : Nat} {b_wp0_s : Nat} {vwp0s1 : Value} {mb_wp0_s : Nat} {vwp01 : Value} {r : ((List UInt8) × UInt8 × sectors_Store)} (h : blk_work_in wp0 wp0_s = some r) :
  Ctr Try.prog 38 #[.pointer (some ⟨b_wp0, 0, none⟩)] [(cellsR b_wp0 80 [.pointer (some ⟨b_wp0_s, 0, none⟩), vU64 wp0.feats, vS wp0.name, vwp01, vU64 wp0.at_, vU64 wp0.room]), (cellsR b_wp0_s 71 [vwp0s1, .map (some mb_wp0_s)]), (rowS secS vwp0s1 wp0_s.l), (mapR mb_wp0_s .i64 (fun x : Int => x) vSec wp0_s.fresh)] [Fact.sl u8S vwp01 wp0.data]
   (fun rv own shr => ∃ (w1 : Value), ∃ (w2 : Value), rv = .tuple #[w1, vU8 r.2.1] ∧ own = [(cellsR b_wp0 80 [.pointer (some ⟨b_wp0_s, 0, none⟩), vU64 wp0.feats, vS wp0.name, vwp01, vU64 wp0.at_, vU64 wp0.room]), (cellsR b_wp0_s 71 [w2, .map (some mb_wp0_s)]), (rowS secS w2 r.2.2.l), (mapR mb_wp0_s .i64 (fun x : Int => x) vSec r.2.2.fresh), (rowS u8S w1 r.1)] ∧ shr = []) := by
 unfold blk_work_in at h
 refine Ctr.mk (args := [.pointer (some ⟨b_wp0, 0, none⟩)]) Try.func38 rfl rfl (fun R0 w0 B => ?_)
 refine Tk_seq (Tk_region (Tops_step rfl (OpT_assign rfl rfl rfl rfl) ?_))
 refine Tops_step rfl (OpT_assign rfl rfl rfl rfl) ?_
 refine Tops_nil (tZ [0] [0, 1, 2, 3] [0] rfl rfl rfl rfl ?_)
 refine Tk_seq (Tk_seq (Tk_drawT (by kernel_rfl) ?_))
 refine TA_tb [0, 1, 3, 7, 15, 31, 63, 127, 255, 511, 1023, 127, 2175, 6271, 14463, 127, 32895, 98431, 229503, 491647, 1048575, 2097151, 4194303] (by kernel_rfl) fun htb => ?_
 refine TA_step htb (by kernel_rfl) rfl rfl (OpT_move rfl rfl rfl rfl) ?_
 refine TA_step htb (by kernel_rfl) rfl rfl (OpT_nilCheckP rfl rfl rfl rfl) ?_
 refine TA_step htb (by kernel_rfl) rfl rfl (OpT_fieldC rfl rfl rfl rfl fldF80x5) ?_
 refine TA_step htb (by kernel_rfl) rfl rfl (OpT_loadC rfl rfl rfl rfl tyF30 (i := 0) rfl rfl) ?_
 refine TA_step htb (by kernel_rfl) rfl rfl (OpT_bin rfl rfl rfl rfl rfl (bin_rem_u64 (a := wp0.room) (b := (512 : UInt64)) rfl)) ?_
 refine TA_step htb (by kernel_rfl) rfl rfl (OpT_bin rfl rfl rfl rfl rfl (bin_neq_u64 (a := wp0.room % (512 : UInt64)) (b := (0 : UInt64)))) ?_
 refine TA_step htb (by kernel_rfl) rfl rfl (OpT_move rfl rfl rfl rfl) ?_
 refine aZ [0, 12] [0, 1, 2, 3] [0] rfl rfl rfl rfl ?_
 rcases Bool.eq_false_or_eq_true ((wp0.room % (512 : UInt64)) != (0 : UInt64)) with hg1 | hg1
 ·replace h := br_t hg1 h
  refine TA_seg (lo := 7) (hi := 20) htb rfl rfl (by kernel_rfl) (fun c L a w => Sat c ⟨[(0, some (.pointer (some ⟨b_wp0, 0, none⟩))), (12, some (vB ((wp0.room % (512 : UInt64)) != (0 : UInt64)))), (13, bif L 7 then some (undef) else none), (14, bif L 8 then some (undef) else none), (15, bif L 9 then some (undef) else none), (16, bif L 10 then some (undef) else none), (17, bif L 11 then some (undef) else none), (18, bif L 12 then some (undef) else none), (19, bif L 13 then some (undef) else none), (20, bif L 14 then some (undef) else none), (21, bif L 15 then some (undef) else none), (22, bif L 16 then some (undef) else none), (23, bif L 17 then some (undef) else none), (24, bif L 18 then some (undef) else none), (25, bif L 19 then some (undef) else none)], [(some (cellsR b_wp0 80 [.pointer (some ⟨b_wp0_s, 0, none⟩), vU64 wp0.feats, vS wp0.name, vwp01, vU64 wp0.at_, vU64 wp0.room]) : Option Res), (some (cellsR b_wp0_s 71 [vwp0s1, .map (some mb_wp0_s)]) : Option Res), (some (rowS secS vwp0s1 wp0_s.l) : Option Res), (some (mapR mb_wp0_s .i64 (fun x : Int => x) vSec wp0_s.fresh) : Option Res)], [Fact.sl u8S vwp01 wp0.data]⟩ a w) [([], [8, 9, 10]), ([7], [9, 10]), ([7, 8], [10]), ([7, 8, 9], []), ([], [12, 13, 14]), ([11], [13, 14]), ([11, 12], [14]), ([11, 12, 13], []), ([], [16, 17, 18, 19]), ([15], [17, 18, 19]), ([15, 16], [18, 19]), ([15, 16, 17], [19]), ([15, 16, 17, 18], [])] rfl (by kernel_rfl) ?_ (steps_cons ?_ (steps_cons ?_ (steps_cons ?_ (steps_cons ?_ (steps_cons ?_ (steps_cons ?_ (steps_cons ?_ (steps_cons ?_ (steps_cons ?_ (steps_cons ?_ (steps_cons ?_ (steps_cons ?_ (steps_cons ?_ (steps_nil)))))))))))))) ?_
  ·intro a w hs
   exact hs.startF [13, 14, 15, 16, 17, 18, 19, 20, 21, 22, 23, 24, 25] [0, 1, 2, 3] [0] rfl rfl rfl rfl
  ·intro L a w hv K Q hK
   have hs := hv
   refine wpOp_no rfl rfl rfl hs (congrArg (fun b => some (Value.bool b)) hg1) rfl rfl ?_
   intro a' w' hs'
   exact hK a' w' (hs'.putF (i := 2) rfl [0, 1, 2, 3] [0] rfl rfl rfl rfl)
  ·intro L a w hv K Q hK
   have hs := hv
   refine wpOp_no rfl rfl rfl hs (congrArg (fun b => some (Value.bool b)) hg1) rfl rfl ?_
   intro a' w' hs'
   exact hK a' w' (hs'.putF (i := 3) rfl [0, 1, 2, 3] [0] rfl rfl rfl rfl)
  ·intro L a w hv K Q hK
   have hs := hv
   refine wpOp_no rfl rfl rfl hs (congrArg (fun b => some (Value.bool b)) hg1) rfl rfl ?_
   intro a' w' hs'
   exact hK a' w' (hs'.putF (i := 4) rfl [0, 1, 2, 3] [0] rfl rfl rfl rfl)
  ·intro L a w hv K Q hK
   have hs := hv
   refine wpOp_no rfl rfl rfl hs (congrArg (fun b => some (Value.bool b)) hg1) rfl rfl ?_
   intro a' w' hs'
   exact hK a' w' (hs'.putF (i := 5) rfl [0, 1, 2, 3] [0] rfl rfl rfl rfl)
  ·intro L a w hv K Q hK
   have hs := hv
   refine wpOp_no rfl rfl rfl hs (congrArg (fun b => some (Value.bool b)) hg1) rfl rfl ?_
   intro a' w' hs'
   exact hK a' w' (hs'.putF (i := 6) rfl [0, 1, 2, 3] [0] rfl rfl rfl rfl)
  ·intro L a w hv K Q hK
   have hs := hv
   refine wpOp_no rfl rfl rfl hs (congrArg (fun b => some (Value.bool b)) hg1) rfl rfl ?_
   intro a' w' hs'
   exact hK a' w' (hs'.putF (i := 7) rfl [0, 1, 2, 3] [0] rfl rfl rfl rfl)
  ·intro L a w hv K Q hK
   have hs := hv
   refine wpOp_no rfl rfl rfl hs (congrArg (fun b => some (Value.bool b)) hg1) rfl rfl ?_
   intro a' w' hs'
   exact hK a' w' (hs'.putF (i := 8) rfl [0, 1, 2, 3] [0] rfl rfl rfl rfl)
  ·intro L a w hv K Q hK
   have hs := hv
   refine wpOp_no rfl rfl rfl hs (congrArg (fun b => some (Value.bool b)) hg1) rfl rfl ?_
   intro a' w' hs'
   exact hK a' w' (hs'.putF (i := 9) rfl [0, 1, 2, 3] [0] rfl rfl rfl rfl)
  ·intro L a w hv K Q hK
   have hs := hv
   refine wpOp_no rfl rfl rfl hs (congrArg (fun b => some (Value.bool b)) hg1) rfl rfl ?_
   intro a' w' hs'
   exact hK a' w' (hs'.putF (i := 10) rfl [0, 1, 2, 3] [0] rfl rfl rfl rfl)
  ·intro L a w hv K Q hK
   have hs := hv
   refine wpOp_no rfl rfl rfl hs (congrArg (fun b => some (Value.bool b)) hg1) rfl rfl ?_
   intro a' w' hs'
   exact hK a' w' (hs'.putF (i := 11) rfl [0, 1, 2, 3] [0] rfl rfl rfl rfl)
  ·intro L a w hv K Q hK
   have hs := hv
   refine wpOp_no rfl rfl rfl hs (congrArg (fun b => some (Value.bool b)) hg1) rfl rfl ?_
   intro a' w' hs'
   exact hK a' w' (hs'.putF (i := 12) rfl [0, 1, 2, 3] [0] rfl rfl rfl rfl)
  ·intro L a w hv K Q hK
   have hs := hv
   refine wpOp_no rfl rfl rfl hs (congrArg (fun b => some (Value.bool b)) hg1) rfl rfl ?_
   intro a' w' hs'
   exact hK a' w' (hs'.putF (i := 13) rfl [0, 1, 2, 3] [0] rfl rfl rfl rfl)
  ·intro L a w hv K Q hK
   have hs := hv
   refine wpOp_no rfl rfl rfl hs (congrArg (fun b => some (Value.bool b)) hg1) rfl rfl ?_
   intro a' w' hs'
   exact hK a' w' (hs'.putF (i := 14) rfl [0, 1, 2, 3] [0] rfl rfl rfl rfl)
  ·intro L a w hL hv
   rw [allTrue hL] at hv
   have hs := hv
   refine gZ hs [0, 12, 16, 20, 25] [0, 1, 2, 3] [0] rfl rfl rfl rfl ?_
   clear hs hL
   refine TA_no htb (by kernel_rfl) rfl rfl rfl (congrArg (fun b => some (Value.bool b)) hg1) rfl rfl ?_
   refine TA_no htb (by kernel_rfl) rfl rfl rfl (congrArg (fun b => some (Value.bool b)) hg1) rfl rfl ?_
   refine TA_step htb (by kernel_rfl) rfl rfl (OpT_pickT rfl rfl rfl (congrArg (fun b => some (Value.bool b)) hg1) rfl) ?_
   refine TA_end rfl ?_
   refine tZ [0, 28] [0, 1, 2, 3] [0] rfl rfl rfl rfl ?_
   refine Tk_condT rfl ?_
   refine Tk_seq (Tk_region (Tops_step rfl (OpT_assign rfl rfl rfl rfl) ?_))
   refine Tops_step rfl (OpT_assign rfl rfl rfl rfl) ?_
   refine Tops_nil (tZ [2, 3] [0, 1, 2, 3] [0] rfl rfl rfl rfl ?_)
   refine Tk_nilrow u8S ?_
   obtain rfl := Option.some.inj h
   exact Tk_retV rfl rfl (resA (vs := [.slice none 0 0, vU8 (1 : UInt8)]) rfl ⟨rfl, rfl, trivial⟩) [0, 1, 2, 3, 4] [] rfl rfl rfl ⟨(.slice none 0 0), vwp0s1, rfl, rfl, rfl⟩
 ·replace h := br_f hg1 h
  refine TA_seg (lo := 7) (hi := 20) htb rfl rfl (by kernel_rfl) (fun c L a w => Sat c ⟨[(0, some (.pointer (some ⟨b_wp0, 0, none⟩))), (12, some (vB ((wp0.room % (512 : UInt64)) != (0 : UInt64)))), (13, bif L 7 then some (.pointer (some ⟨b_wp0, 0, none⟩)) else none), (14, bif L 8 then some (.pointer (some ⟨b_wp0, 0, none⟩)) else none), (15, bif L 9 then some (.pointer (some ⟨b_wp0, 0, none⟩)) else none), (16, bif L 10 then some (.pointer (some ⟨b_wp0_s, 0, none⟩)) else none), (17, bif L 11 then some (.pointer (some ⟨b_wp0, 0, none⟩)) else none), (18, bif L 12 then some (.pointer (some ⟨b_wp0, 0, none⟩)) else none), (19, bif L 13 then some (.pointer (some ⟨b_wp0, 4, none⟩)) else none), (20, bif L 14 then some (vU64 wp0.at_) else none), (21, bif L 15 then some (.pointer (some ⟨b_wp0, 0, none⟩)) else none), (22, bif L 16 then some (.pointer (some ⟨b_wp0, 0, none⟩)) else none), (23, bif L 17 then some (.pointer (some ⟨b_wp0, 5, none⟩)) else none), (24, bif L 18 then some (vU64 wp0.room) else none), (25, bif L 19 then some (vU64 (wp0.room / (512 : UInt64))) else none)], [(some (cellsR b_wp0 80 [.pointer (some ⟨b_wp0_s, 0, none⟩), vU64 wp0.feats, vS wp0.name, vwp01, vU64 wp0.at_, vU64 wp0.room]) : Option Res), (some (cellsR b_wp0_s 71 [vwp0s1, .map (some mb_wp0_s)]) : Option Res), (some (rowS secS vwp0s1 wp0_s.l) : Option Res), (some (mapR mb_wp0_s .i64 (fun x : Int => x) vSec wp0_s.fresh) : Option Res)], [Fact.sl u8S vwp01 wp0.data]⟩ a w) [([], [8, 9, 10]), ([7], [9, 10]), ([7, 8], [10]), ([7, 8, 9], []), ([], [12, 13, 14]), ([11], [13, 14]), ([11, 12], [14]), ([11, 12, 13], []), ([], [16, 17, 18, 19]), ([15], [17, 18, 19]), ([15, 16], [18, 19]), ([15, 16, 17], [19]), ([15, 16, 17, 18], [])] rfl (by kernel_rfl) ?_ (steps_cons ?_ (steps_cons ?_ (steps_cons ?_ (steps_cons ?_ (steps_cons ?_ (steps_cons ?_ (steps_cons ?_ (steps_cons ?_ (steps_cons ?_ (steps_cons ?_ (steps_cons ?_ (steps_cons ?_ (steps_cons ?_ (steps_nil)))))))))))))) ?_
  ·intro a w hs
   exact hs.startF [13, 14, 15, 16, 17, 18, 19, 20, 21, 22, 23, 24, 25] [0, 1, 2, 3] [0] rfl rfl rfl rfl
  ·intro L a w hv K Q hK
   have hs := hv
   refine wpOp_yes rfl rfl rfl hs (congrArg (fun b => some (Value.bool b)) hg1) (OpT_move rfl rfl rfl rfl) ?_
   rintro _ rfl a' w' hs'
   exact hK a' w' (hs'.putF (i := 2) rfl [0, 1, 2, 3] [0] rfl rfl rfl rfl)
  ·intro L a w hv K Q hK
   have hs := hv
   refine wpOp_yes rfl rfl rfl hs (congrArg (fun b => some (Value.bool b)) hg1) (OpT_nilCheckP rfl rfl rfl rfl) ?_
   rintro _ rfl a' w' hs'
   exact hK a' w' (hs'.putF (i := 3) rfl [0, 1, 2, 3] [0] rfl rfl rfl rfl)
  ·intro L a w hv K Q hK
   have hs := hv
   refine wpOp_yes rfl rfl rfl hs (congrArg (fun b => some (Value.bool b)) hg1) (OpT_fieldC rfl rfl rfl rfl fldF80x0) ?_
   rintro _ rfl a' w' hs'
   exact hK a' w' (hs'.putF (i := 4) rfl [0, 1, 2, 3] [0] rfl rfl rfl rfl)
  ·intro L a w hv K Q hK
   have hs := hv
   refine wpOp_yes rfl rfl rfl hs (congrArg (fun b => some (Value.bool b)) hg1) (OpT_loadC rfl rfl rfl rfl tyF22 (i := 0) rfl rfl) ?_
   rintro _ rfl a' w' hs'
   exact hK a' w' (hs'.putF (i := 5) rfl [0, 1, 2, 3] [0] rfl rfl rfl rfl)
  ·intro L a w hv K Q hK
   have hs := hv
   refine wpOp_yes rfl rfl rfl hs (congrArg (fun b => some (Value.bool b)) hg1) (OpT_move rfl rfl rfl rfl) ?_
   rintro _ rfl a' w' hs'
   exact hK a' w' (hs'.putF (i := 6) rfl [0, 1, 2, 3] [0] rfl rfl rfl rfl)
  ·intro L a w hv K Q hK
   have hs := hv
   refine wpOp_yes rfl rfl rfl hs (congrArg (fun b => some (Value.bool b)) hg1) (OpT_nilCheckP rfl rfl rfl rfl) ?_
   rintro _ rfl a' w' hs'
   exact hK a' w' (hs'.putF (i := 7) rfl [0, 1, 2, 3] [0] rfl rfl rfl rfl)
  ·intro L a w hv K Q hK
   have hs := hv
   refine wpOp_yes rfl rfl rfl hs (congrArg (fun b => some (Value.bool b)) hg1) (OpT_fieldC rfl rfl rfl rfl fldF80x4) ?_
   rintro _ rfl a' w' hs'
   exact hK a' w' (hs'.putF (i := 8) rfl [0, 1, 2, 3] [0] rfl rfl rfl rfl)
  ·intro L a w hv K Q hK
   have hs := hv
   refine wpOp_yes rfl rfl rfl hs (congrArg (fun b => some (Value.bool b)) hg1) (OpT_loadC rfl rfl rfl rfl tyF30 (i := 0) rfl rfl) ?_
   rintro _ rfl a' w' hs'
   exact hK a' w' (hs'.putF (i := 9) rfl [0, 1, 2, 3] [0] rfl rfl rfl rfl)
  ·intro L a w hv K Q hK
   have hs := hv
   refine wpOp_yes rfl rfl rfl hs (congrArg (fun b => some (Value.bool b)) hg1) (OpT_move rfl rfl rfl rfl) ?_
   rintro _ rfl a' w' hs'
   exact hK a' w' (hs'.putF (i := 10) rfl [0, 1, 2, 3] [0] rfl rfl rfl rfl)
  ·intro L a w hv K Q hK
   have hs := hv
   refine wpOp_yes rfl rfl rfl hs (congrArg (fun b => some (Value.bool b)) hg1) (OpT_nilCheckP rfl rfl rfl rfl) ?_
   rintro _ rfl a' w' hs'
   exact hK a' w' (hs'.putF (i := 11) rfl [0, 1, 2, 3] [0] rfl rfl rfl rfl)
  ·intro L a w hv K Q hK
   have hs := hv
   refine wpOp_yes rfl rfl rfl hs (congrArg (fun b => some (Value.bool b)) hg1) (OpT_fieldC rfl rfl rfl rfl fldF80x5) ?_
   rintro _ rfl a' w' hs'
   exact hK a' w' (hs'.putF (i := 12) rfl [0, 1, 2, 3] [0] rfl rfl rfl rfl)
  ·intro L a w hv K Q hK
   have hs := hv
   refine wpOp_yes rfl rfl rfl hs (congrArg (fun b => some (Value.bool b)) hg1) (OpT_loadC rfl rfl rfl rfl tyF30 (i := 0) rfl rfl) ?_
   rintro _ rfl a' w' hs'
   exact hK a' w' (hs'.putF (i := 13) rfl [0, 1, 2, 3] [0] rfl rfl rfl rfl)
  ·intro L a w hv K Q hK
   have hs := hv
   refine wpOp_yes rfl rfl rfl hs (congrArg (fun b => some (Value.bool b)) hg1) (OpT_bin rfl rfl rfl rfl rfl (bin_quo_u64 (a := wp0.room) (b := (512 : UInt64)) rfl)) ?_
   rintro _ rfl a' w' hs'
   exact hK a' w' (hs'.putF (i := 14) rfl [0, 1, 2, 3] [0] rfl rfl rfl rfl)
  ·intro L a w hL hv
   rw [allTrue hL] at hv
   have hs := hv
   refine gZ hs [0, 12, 16, 20, 25] [0, 1, 2, 3] [0] rfl rfl rfl rfl ?_
   clear hs hL
   obtain ⟨has1, hx1, h⟩ := ob_e h
   refine TA_yes htb (by kernel_rfl) rfl rfl rfl (congrArg (fun b => some (Value.bool b)) hg1) (OpT_callP [0, 4, 5, 6] (w_sectors_Store_Has hx1) [1, 2, 3] [] rfl rfl rfl rfl rfl callee46 rfl rfl rfl rfl rfl) ?_
   rintro _ ⟨_, _, _, ⟨rfl, rfl, rfl⟩, rfl⟩
   refine TA_yes htb (by kernel_rfl) rfl rfl rfl (congrArg (fun b => some (Value.bool b)) hg1) (OpT_not rfl rfl rfl rfl) ?_
   rintro _ rfl
   refine TA_step htb (by kernel_rfl) rfl rfl (OpT_pickF rfl rfl rfl (congrArg (fun b => some (Value.bool b)) hg1) rfl) ?_
   refine TA_end rfl ?_
   refine tZ [0, 28] [0, 1, 2, 3] [0] rfl rfl rfl rfl ?_
   rcases Bool.eq_false_or_eq_true ((!has1)) with hg2 | hg2
   ·replace h := br_t hg2 h
    refine Tk_condT (congrArg (fun b => some (Value.bool b)) hg2) ?_
    refine Tk_seq (Tk_region (Tops_step rfl (OpT_assign rfl rfl rfl rfl) ?_))
    refine Tops_step rfl (OpT_assign rfl rfl rfl rfl) ?_
    refine Tops_nil (tZ [2, 3] [0, 1, 2, 3] [0] rfl rfl rfl rfl ?_)
    refine Tk_nilrow u8S ?_
    obtain rfl := Option.some.inj h
    exact Tk_retV rfl rfl (resA (vs := [.slice none 0 0, vU8 (1 : UInt8)]) rfl ⟨rfl, rfl, trivial⟩) [0, 1, 2, 3, 4] [] rfl rfl rfl ⟨(.slice none 0 0), vwp0s1, rfl, rfl, rfl⟩
   ·replace h := br_f hg2 h
    refine Tk_condF (congrArg (fun b => some (Value.bool b)) hg2) ?_
    refine Tk_skip (Tk_seq (Tk_drawT (by kernel_rfl) ?_))
    refine TA_tb [0, 1, 3, 7, 0, 16, 48, 112, 0, 256, 768, 1792, 3840, 7936, 16383, 32767, 65535, 65535, 131071, 524287] (by kernel_rfl) fun htb => ?_
    refine aZ [0] [0, 1, 2, 3] [0] rfl rfl rfl rfl ?_
    refine TA_seg (lo := 0) (hi := 14) htb rfl rfl (by kernel_rfl) (fun c L a w => Sat c ⟨[(0, some (.pointer (some ⟨b_wp0, 0, none⟩))), (30, bif L 0 then some (.pointer (some ⟨b_wp0, 0, none⟩)) else none), (31, bif L 1 then some (.pointer (some ⟨b_wp0, 0, none⟩)) else none), (32, bif L 2 then some (.pointer (some ⟨b_wp0, 0, none⟩)) else none), (33, bif L 3 then some (.pointer (some ⟨b_wp0_s, 0, none⟩)) else none), (34, bif L 4 then some (.pointer (some ⟨b_wp0, 0, none⟩)) else none), (35, bif L 5 then some (.pointer (some ⟨b_wp0, 0, none⟩)) else none), (36, bif L 6 then some (.pointer (some ⟨b_wp0, 4, none⟩)) else none), (37, bif L 7 then some (vU64 wp0.at_) else none), (38, bif L 8 then some (.pointer (some ⟨b_wp0, 0, none⟩)) else none), (39, bif L 9 then some (.pointer (some ⟨b_wp0, 0, none⟩)) else none), (40, bif L 10 then some (.pointer (some ⟨b_wp0, 5, none⟩)) else none), (41, bif L 11 then some (vU64 wp0.room) else none), (42, bif L 12 then some (vU64 (wp0.room / (512 : UInt64))) else none), (43, bif L 13 then some (vI (i64 (wp0.room / (512 : UInt64)))) else none)], [(some (cellsR b_wp0 80 [.pointer (some ⟨b_wp0_s, 0, none⟩), vU64 wp0.feats, vS wp0.name, vwp01, vU64 wp0.at_, vU64 wp0.room]) : Option Res), (some (cellsR b_wp0_s 71 [vwp0s1, .map (some mb_wp0_s)]) : Option Res), (some (rowS secS vwp0s1 wp0_s.l) : Option Res), (some (mapR mb_wp0_s .i64 (fun x : Int => x) vSec wp0_s.fresh) : Option Res)], [Fact.sl u8S vwp01 wp0.data]⟩ a w) [([], [1, 2, 3]), ([0], [2, 3]), ([0, 1], [3]), ([0, 1, 2], []), ([], [5, 6, 7]), ([4], [6, 7]), ([4, 5], [7]), ([4, 5, 6], []), ([], [9, 10, 11, 12, 13]), ([8], [10, 11, 12, 13]), ([8, 9], [11, 12, 13]), ([8, 9, 10], [12, 13]), ([8, 9, 10, 11], [13]), ([8, 9, 10, 11, 12], [])] rfl (by kernel_rfl) ?_ (steps_cons ?_ (steps_cons ?_ (steps_cons ?_ (steps_cons ?_ (steps_cons ?_ (steps_cons ?_ (steps_cons ?_ (steps_cons ?_ (steps_cons ?_ (steps_cons ?_ (steps_cons ?_ (steps_cons ?_ (steps_cons ?_ (steps_cons ?_ (steps_nil))))))))))))))) ?_
    ·intro a w hs
     exact hs.startF [30, 31, 32, 33, 34, 35, 36, 37, 38, 39, 40, 41, 42, 43] [0, 1, 2, 3] [0] rfl rfl rfl rfl
    ·intro L a w hv K Q hK
     have hs := hv
     refine wpOp_go rfl rfl hs (OpT_move rfl rfl rfl rfl) ?_
     rintro _ rfl a' w' hs'
     exact hK a' w' (hs'.putF (i := 1) rfl [0, 1, 2, 3] [0] rfl rfl rfl rfl)
    ·intro L a w hv K Q hK
     have hs := hv
     refine wpOp_go rfl rfl hs (OpT_nilCheckP rfl rfl rfl rfl) ?_
     rintro _ rfl a' w' hs'
     exact hK a' w' (hs'.putF (i := 2) rfl [0, 1, 2, 3] [0] rfl rfl rfl rfl)
    ·intro L a w hv K Q hK
     have hs := hv
     refine wpOp_go rfl rfl hs (OpT_fieldC rfl rfl rfl rfl fldF80x0) ?_
     rintro _ rfl a' w' hs'
     exact hK a' w' (hs'.putF (i := 3) rfl [0, 1, 2, 3] [0] rfl rfl rfl rfl)
    ·intro L a w hv K Q hK
     have hs := hv
     refine wpOp_go rfl rfl hs (OpT_loadC rfl rfl rfl rfl tyF22 (i := 0) rfl rfl) ?_
     rintro _ rfl a' w' hs'
     exact hK a' w' (hs'.putF (i := 4) rfl [0, 1, 2, 3] [0] rfl rfl rfl rfl)
    ·intro L a w hv K Q hK
     have hs := hv
     refine wpOp_go rfl rfl hs (OpT_move rfl rfl rfl rfl) ?_
     rintro _ rfl a' w' hs'
     exact hK a' w' (hs'.putF (i := 5) rfl [0, 1, 2, 3] [0] rfl rfl rfl rfl)
    ·intro L a w hv K Q hK
     have hs := hv
     refine wpOp_go rfl rfl hs (OpT_nilCheckP rfl rfl rfl rfl) ?_
     rintro _ rfl a' w' hs'
     exact hK a' w' (hs'.putF (i := 6) rfl [0, 1, 2, 3] [0] rfl rfl rfl rfl)
    ·intro L a w hv K Q hK
     have hs := hv
     refine wpOp_go rfl rfl hs (OpT_fieldC rfl rfl rfl rfl fldF80x4) ?_
     rintro _ rfl a' w' hs'
     exact hK a' w' (hs'.putF (i := 7) rfl [0, 1, 2, 3] [0] rfl rfl rfl rfl)
    ·intro L a w hv K Q hK
     have hs := hv
     refine wpOp_go rfl rfl hs (OpT_loadC rfl rfl rfl rfl tyF30 (i := 0) rfl rfl) ?_
     rintro _ rfl a' w' hs'
     exact hK a' w' (hs'.putF (i := 8) rfl [0, 1, 2, 3] [0] rfl rfl rfl rfl)
    ·intro L a w hv K Q hK
     have hs := hv
     refine wpOp_go rfl rfl hs (OpT_move rfl rfl rfl rfl) ?_
     rintro _ rfl a' w' hs'
     exact hK a' w' (hs'.putF (i := 9) rfl [0, 1, 2, 3] [0] rfl rfl rfl rfl)
    ·intro L a w hv K Q hK
     have hs := hv
     refine wpOp_go rfl rfl hs (OpT_nilCheckP rfl rfl rfl rfl) ?_
     rintro _ rfl a' w' hs'
     exact hK a' w' (hs'.putF (i := 10) rfl [0, 1, 2, 3] [0] rfl rfl rfl rfl)
    ·intro L a w hv K Q hK
     have hs := hv
     refine wpOp_go rfl rfl hs (OpT_fieldC rfl rfl rfl rfl fldF80x5) ?_
     rintro _ rfl a' w' hs'
     exact hK a' w' (hs'.putF (i := 11) rfl [0, 1, 2, 3] [0] rfl rfl rfl rfl)
    ·intro L a w hv K Q hK
     have hs := hv
     refine wpOp_go rfl rfl hs (OpT_loadC rfl rfl rfl rfl tyF30 (i := 0) rfl rfl) ?_
     rintro _ rfl a' w' hs'
     exact hK a' w' (hs'.putF (i := 12) rfl [0, 1, 2, 3] [0] rfl rfl rfl rfl)
    ·intro L a w hv K Q hK
     have hs := hv
     refine wpOp_go rfl rfl hs (OpT_bin rfl rfl rfl rfl rfl (bin_quo_u64 (a := wp0.room) (b := (512 : UInt64)) rfl)) ?_
     rintro _ rfl a' w' hs'
     exact hK a' w' (hs'.putF (i := 13) rfl [0, 1, 2, 3] [0] rfl rfl rfl rfl)
    ·intro L a w hv K Q hK
     have hs := hv
     refine wpOp_go rfl rfl hs (OpT_cnv rfl rfl rfl rfl (cnv_u64_i (n := wp0.room / (512 : UInt64)) Try.underlying30 Try.underlying3)) ?_
     rintro _ rfl a' w' hs'
     exact hK a' w' (hs'.putF (i := 14) rfl [0, 1, 2, 3] [0] rfl rfl rfl rfl)
    ·intro L a w hL hv
     rw [allTrue hL] at hv
     have hs := hv
     refine gZ hs [33, 37, 43] [0, 1, 2, 3] [0] rfl rfl rfl rfl ?_
     clear hs hL
     obtain ⟨read1, hx2, h⟩ := ob_e h
     refine TA_exP htb (by kernel_rfl) rfl rfl (OpT_callP [0, 4, 5, 6, 7] (w_sectors_Store_Read hx2) [1, 2, 3] [] rfl rfl rfl rfl rfl callee28 rfl rfl rfl rfl rfl) ?_
     rintro _ ⟨_, _, _, ⟨v1, v2, rfl, rfl, rfl⟩, rfl⟩
     refine TA_step htb (by kernel_rfl) rfl rfl (OpT_move rfl rfl rfl rfl) ?_
     refine aZ [29] [0, 1, 2, 3, 4] [0] rfl rfl rfl rfl ?_
     refine TA_seg (lo := 16) (hi := 19) htb rfl rfl (by kernel_rfl) (fun c L a w => Sat c ⟨[(29, some (.tuple #[v1, vI read1.2.1])), (45, bif L 16 then some (v1) else none), (46, bif L 17 then some (vI read1.2.1) else none), (4, bif L 18 then some (v1) else none)], [(some (cellsR b_wp0 80 [.pointer (some ⟨b_wp0_s, 0, none⟩), vU64 wp0.feats, vS wp0.name, vwp01, vU64 wp0.at_, vU64 wp0.room]) : Option Res), (some (cellsR b_wp0_s 71 [v2, .map (some mb_wp0_s)]) : Option Res), (some (rowS secS v2 read1.2.2.l) : Option Res), (some (mapR mb_wp0_s .i64 (fun x : Int => x) vSec read1.2.2.fresh) : Option Res), (some (rowS u8S v1 read1.1) : Option Res)], [Fact.sl u8S vwp01 wp0.data]⟩ a w) [([], [18]), ([], []), ([16], [])] rfl (by kernel_rfl) ?_ (steps_cons ?_ (steps_cons ?_ (steps_cons ?_ (steps_nil)))) ?_
     ·intro a w hs
      exact hs.startF [45, 46, 4] [0, 1, 2, 3, 4] [0] rfl rfl rfl rfl
     ·intro L a w hv K Q hK
      have hs := hv
      refine wpOp_go rfl rfl hs (OpT_extract rfl rfl rfl rfl rfl) ?_
      rintro _ rfl a' w' hs'
      exact hK a' w' (hs'.putF (i := 1) rfl [0, 1, 2, 3, 4] [0] rfl rfl rfl rfl)
     ·intro L a w hv K Q hK
      have hs := hv
      refine wpOp_go rfl rfl hs (OpT_extract rfl rfl rfl rfl rfl) ?_
      rintro _ rfl a' w' hs'
      exact hK a' w' (hs'.putF (i := 2) rfl [0, 1, 2, 3, 4] [0] rfl rfl rfl rfl)
     ·intro L a w hv K Q hK
      have hs := hv
      refine wpOp_go rfl rfl hs (OpT_assign rfl rfl rfl rfl) ?_
      rintro _ rfl a' w' hs'
      exact hK a' w' (hs'.putF (i := 3) rfl [0, 1, 2, 3, 4] [0] rfl rfl rfl rfl)
     ·intro L a w hL hv
      rw [allTrue hL] at hv
      have hs := hv
      refine gZ hs [46, 4] [0, 1, 2, 3, 4] [0] rfl rfl rfl rfl ?_
      clear hs hL
      refine TA_step htb (by kernel_rfl) rfl rfl (OpT_assign rfl rfl rfl rfl) ?_
      refine TA_end rfl ?_
      refine tZ [4] [0, 1, 2, 3, 4] [0] rfl rfl rfl rfl ?_
      refine Tk_seq (Tk_region (Tops_step rfl (OpT_move rfl rfl rfl rfl) ?_))
      refine Tops_step rfl (OpT_assign rfl rfl rfl rfl) ?_
      refine Tops_step rfl (OpT_assign rfl rfl rfl rfl) ?_
      refine Tops_nil (tZ [2, 3] [0, 1, 2, 3, 4] [0] rfl rfl rfl rfl ?_)
      obtain rfl := Option.some.inj h
      exact Tk_retV rfl rfl (resA (vs := [v1, vU8 (0 : UInt8)]) rfl ⟨rfl, rfl, trivial⟩) [0, 1, 2, 3, 4] [] rfl rfl rfl ⟨v1, v2, rfl, rfl, rfl⟩

set_option maxRecDepth 100000 in
set_option maxHeartbeats 4000000 in
theorem w_feat_Has {set : UInt64} {bit : Int} {r : Bool} (h : feat_Has set bit = some r) :
  Ctr Try.prog 54 #[vU64 set, vI bit] [] []
   (fun rv own shr => rv = vB r ∧ own = [] ∧ shr = []) := by
 unfold feat_Has at h
 refine Ctr.mk (args := [vU64 set, vI bit]) Try.func54 rfl rfl (fun R0 w0 B => ?_)
 refine Tk_seq (Tk_region (Tops_step rfl (OpT_assign rfl rfl rfl rfl) ?_))
 refine Tops_nil (tZ [0, 1] [] [] rfl rfl rfl rfl ?_)
 refine Tk_seq (Tk_region (Tops_step rfl (OpT_move rfl rfl rfl rfl) ?_))
 refine Tops_step rfl (OpT_bin rfl rfl rfl rfl rfl (bin_geq_i (a := bit) (b := (0 : Int)))) ?_
 refine Tops_step rfl (OpT_move rfl rfl rfl rfl) ?_
 rcases Bool.eq_false_or_eq_true (decide (bit ≥ (0 : Int))) with hg1 | hg1
 ·replace h := br_t hg1 h
  refine Tops_yes rfl rfl (congrArg (fun b => some (Value.bool b)) hg1) (OpT_move rfl rfl rfl rfl) ?_
  rintro _ rfl
  refine Tops_yes rfl rfl (congrArg (fun b => some (Value.bool b)) hg1) (OpT_bin rfl rfl rfl rfl rfl (bin_leq_i (a := bit) (b := (63 : Int)))) ?_
  rintro _ rfl
  refine Tops_step rfl (OpT_pickT rfl rfl rfl (congrArg (fun b => some (Value.bool b)) hg1) rfl) ?_
  refine Tops_step rfl (OpT_move rfl rfl rfl rfl) ?_
  rcases Bool.eq_false_or_eq_true (decide (bit ≤ (63 : Int))) with hg2 | hg2
  ·replace h := br_t hg2 h
   refine Tops_yes rfl rfl (congrArg (fun b => some (Value.bool b)) hg2) (OpT_move rfl rfl rfl rfl) ?_
   rintro _ rfl
   refine Tops_yes rfl rfl (congrArg (fun b => some (Value.bool b)) hg2) (OpT_move rfl rfl rfl rfl) ?_
   rintro _ rfl
   obtain ⟨hc1, h⟩ := chk_e h
   refine Tops_yes rfl rfl (congrArg (fun b => some (Value.bool b)) hg2) (OpT_bin rfl rfl rfl rfl rfl (bin_shr_u64_i64 (a := set) (n := bit) hc1)) ?_
   rintro _ rfl
   refine Tops_yes rfl rfl (congrArg (fun b => some (Value.bool b)) hg2) (OpT_bin rfl rfl rfl rfl rfl (bin_and_u64 (a := shr64 set bit.toNat) (b := (1 : UInt64)))) ?_
   rintro _ rfl
   refine Tops_yes rfl rfl (congrArg (fun b => some (Value.bool b)) hg2) (OpT_bin rfl rfl rfl rfl rfl (bin_eql_u64 (a := (shr64 set bit.toNat) &&& (1 : UInt64)) (b := (1 : UInt64)))) ?_
   rintro _ rfl
   refine Tops_step rfl (OpT_pickT rfl rfl rfl (congrArg (fun b => some (Value.bool b)) hg2) rfl) ?_
   refine Tops_step rfl (OpT_assign rfl rfl rfl rfl) ?_
   refine Tops_nil (tZ [4] [] [] rfl rfl rfl rfl ?_)
   obtain rfl := Option.some.inj h
   exact Tk_retV rfl rfl (resA (vs := [vB (((shr64 set bit.toNat) &&& (1 : UInt64)) == (1 : UInt64))]) rfl ⟨rfl, trivial⟩) [] [] rfl rfl rfl ⟨rfl, rfl, rfl⟩
  ·replace h := br_f hg2 h
   refine Tops_no rfl rfl (congrArg (fun b => some (Value.bool b)) hg2) rfl rfl ?_
   refine Tops_no rfl rfl (congrArg (fun b => some (Value.bool b)) hg2) rfl rfl ?_
   refine Tops_no rfl rfl (congrArg (fun b => some (Value.bool b)) hg2) rfl rfl ?_
   refine Tops_no rfl rfl (congrArg (fun b => some (Value.bool b)) hg2) rfl rfl ?_
   refine Tops_no rfl rfl (congrArg (fun b => some (Value.bool b)) hg2) rfl rfl ?_
   refine Tops_step rfl (OpT_pickF rfl rfl rfl (congrArg (fun b => some (Value.bool b)) hg2) rfl) ?_
   refine Tops_step rfl (OpT_assign rfl rfl rfl rfl) ?_
   refine Tops_nil (tZ [4] [] [] rfl rfl rfl rfl ?_)
   obtain rfl := Option.some.inj h
   exact Tk_retV rfl rfl (resA (vs := [vB false]) rfl ⟨rfl, trivial⟩) [] [] rfl rfl rfl ⟨rfl, rfl, rfl⟩
 ·replace h := br_f hg1 h
  refine Tops_no rfl rfl (congrArg (fun b => some (Value.bool b)) hg1) rfl rfl ?_
  refine Tops_no rfl rfl (congrArg (fun b => some (Value.bool b)) hg1) rfl rfl ?_
  refine Tops_step rfl (OpT_pickF rfl rfl rfl (congrArg (fun b => some (Value.bool b)) hg1) rfl) ?_
  refine Tops_step rfl (OpT_move rfl rfl rfl rfl) ?_
  refine Tops_no rfl rfl rfl rfl rfl ?_
  refine Tops_no rfl rfl rfl rfl rfl ?_
  refine Tops_no rfl rfl rfl rfl rfl ?_
  refine Tops_no rfl rfl rfl rfl rfl ?_
  refine Tops_no rfl rfl rfl rfl rfl ?_
  refine Tops_step rfl (OpT_pickF rfl rfl rfl rfl rfl) ?_
  refine Tops_step rfl (OpT_assign rfl rfl rfl rfl) ?_
  refine Tops_nil (tZ [4] [] [] rfl rfl rfl rfl ?_)
  obtain rfl := Option.some.inj h
  exact Tk_retV rfl rfl (resA (vs := [vB false]) rfl ⟨rfl, trivial⟩) [] [] rfl rfl rfl ⟨rfl, rfl, rfl⟩

set_option maxRecDepth 100000 in
set_option maxHeartbeats 4000000 in
theorem w_sectors_Store_put {sp0 : sectors_Store} {np1 : Int} {arg2 : Sec} {b_sp0 : Nat} {vsp01 : Value} {mb_sp0 : Nat} {r : sectors_Store} (h : sectors_Store_put sp0 np1 arg2 = some r) :
  Ctr Try.prog 62 #[.pointer (some ⟨b_sp0, 0, none⟩), vI np1, .agg (arg2.l.map vU8).toArray] [(cellsR b_sp0 71 [vsp01, .map (some mb_sp0)]), (rowS secS vsp01 sp0.l), (mapR mb_sp0 .i64 (fun x : Int => x) vSec sp0.fresh)] []
   (fun rv own shr => ∃ (w1 : Value), rv = .tuple #[] ∧ own = [(cellsR b_sp0 71 [w1, .map (some mb_sp0)]), (rowS secS w1 r.l), (mapR mb_sp0 .i64 (fun x : Int => x) vSec r.fresh)] ∧ shr = []) := by
 unfold sectors_Store_put at h
 refine Ctr.mk (args := [.pointer (some ⟨b_sp0, 0, none⟩), vI np1, .agg (arg2.l.map vU8).toArray]) Try.func62 rfl rfl (fun R0 w0 B => ?_)
 refine Tk_seq (Tk_region (Tops_ex rfl (OpT_box rfl rfl rfl rfl) fun b1 => ?_))
 refine Tops_nil (tZ [0, 1, 5] [0, 1, 2, 3] [] rfl rfl rfl rfl ?_)
 refine Tk_seq (Tk_seq (Tk_region (Tops_step rfl (OpT_move rfl rfl rfl rfl) ?_)))
 refine Tops_step rfl (OpT_nilCheckP rfl rfl rfl rfl) ?_
 refine Tops_step rfl (OpT_fieldC rfl rfl rfl rfl fldF71x1) ?_
 refine Tops_step rfl (OpT_loadC rfl rfl rfl rfl tyF69 (i := 0) rfl rfl) ?_
 refine Tops_step rfl (OpT_move rfl rfl rfl rfl) ?_
 refine Tops_step rfl (OpT_lookup2 keyI (V := vSec) (kx := np1) (z := Sec.z) rfl rfl rfl rfl rfl Try.underlying69 Try.underlying3 tyZ83 (i := 2) rfl) ?_
 refine Tops_step rfl (OpT_move rfl rfl rfl rfl) ?_
 refine Tops_step rfl (OpT_extract rfl rfl rfl rfl rfl) ?_
 refine Tops_step rfl (OpT_extract rfl rfl rfl rfl rfl) ?_
 refine Tops_ex rfl (OpT_alloc rfl rfl rfl tyZ83) fun b2 => ?_
 refine Tops_step rfl (OpT_storeLAA (f := vU8) (xs := (mget Sec.z np1 sp0.fresh).l) rfl rfl rfl rfl tyF83 (i := 4) rfl (secB (mget Sec.z np1 sp0.fresh)) (secM Sec.z) (fun _ => rfl)) ?_
 refine Tops_step rfl (OpT_assign rfl rfl rfl rfl) ?_
 refine Tops_nil (tZ [0, 1, 5, 7] [0, 1, 2, 3] [] rfl rfl rfl rfl ?_)
 refine Tk_seq (Tk_region (Tops_step rfl (OpT_move rfl rfl rfl rfl) ?_))
 refine Tops_step rfl (OpT_not rfl rfl rfl rfl) ?_
 refine Tops_nil (tZ [0, 1, 5, 18] [0, 1, 2, 3] [] rfl rfl rfl rfl ?_)
 refine Tk_join (α := (List Sec) × (List (Int × Sec)) × Sec × Value) (fun s => ⟨[(0, some (.pointer (some ⟨b_sp0, 0, none⟩))), (1, some (vI np1)), (5, some (.pointer (some ⟨b1, 0, none⟩)))], [some (cellsR b_sp0 71 [s.2.2.2, .map (some mb_sp0)]), some (rowS secS s.2.2.2 s.1), some (mapR mb_sp0 .i64 (fun x : Int => x) vSec s.2.1), some (cellsR b1 83 (s.2.2.1.l.map vU8))], []⟩) (fun s => sectors_Store_putJ1 np1 s.1 s.2.1 s.2.2.1 = some r) ?_ ?_
 ·rintro ⟨l1, map1, m1, v1⟩ h
  replace h : sectors_Store_putJ1 np1 l1 map1 m1 = some r := h
  unfold sectors_Store_putJ1 at h
  refine Tk_drawT (by kernel_rfl) ?_
  refine TA_tb [0, 1, 3, 7, 0, 0, 63, 127] (by kernel_rfl) fun htb => ?_
  refine TA_seg (lo := 0) (hi := 6) htb rfl rfl (by kernel_rfl) (fun c L a w => Sat c ⟨[(0, some (.pointer (some ⟨b_sp0, 0, none⟩))), (1, some (vI np1)), (5, some (.pointer (some ⟨b1, 0, none⟩))), (31, bif L 0 then some (.pointer (some ⟨b_sp0, 0, none⟩)) else none), (32, bif L 1 then some (.pointer (some ⟨b_sp0, 0, none⟩)) else none), (33, bif L 2 then some (.pointer (some ⟨b_sp0, 0, none⟩)) else none), (34, bif L 3 then some (v1) else none), (35, bif L 4 then some (vI np1) else none), (36, bif L 5 then some (.agg (m1.l.map vU8).toArray) else none)], [(some (cellsR b_sp0 71 [v1, .map (some mb_sp0)]) : Option Res), (some (rowS secS v1 l1) : Option Res), (some (mapR mb_sp0 .i64 (fun x : Int => x) vSec map1) : Option Res), (some (cellsR b1 83 (m1.l.map vU8)) : Option Res)], []⟩ a w) [([], [1, 2, 3]), ([0], [2, 3]), ([0, 1], [3]), ([0, 1, 2], []), ([], []), ([], [])] rfl (by kernel_rfl) ?_ (steps_cons ?_ (steps_cons ?_ (steps_cons ?_ (steps_cons ?_ (steps_cons ?_ (steps_cons ?_ (steps_nil))))))) ?_
  ·intro a w hs
   exact hs.startF [31, 32, 33, 34, 35, 36] [0, 1, 2, 3] [] rfl rfl rfl rfl
  ·intro L a w hv K Q hK
   have hs := hv
   refine wpOp_go rfl rfl hs (OpT_move rfl rfl rfl rfl) ?_
   rintro _ rfl a' w' hs'
   exact hK a' w' (hs'.putF (i := 3) rfl [0, 1, 2, 3] [] rfl rfl rfl rfl)
  ·intro L a w hv K Q hK
   have hs := hv
   refine wpOp_go rfl rfl hs (OpT_nilCheckP rfl rfl rfl rfl) ?_
   rintro _ rfl a' w' hs'
   exact hK a' w' (hs'.putF (i := 4) rfl [0, 1, 2, 3] [] rfl rfl rfl rfl)
  ·intro L a w hv K Q hK
   have hs := hv
   refine wpOp_go rfl rfl hs (OpT_fieldC rfl rfl rfl rfl fldF71x0) ?_
   rintro _ rfl a' w' hs'
   exact hK a' w' (hs'.putF (i := 5) rfl [0, 1, 2, 3] [] rfl rfl rfl rfl)
  ·intro L a w hv K Q hK
   have hs := hv
   refine wpOp_go rfl rfl hs (OpT_loadC rfl rfl rfl rfl tyF68 (i := 0) rfl rfl) ?_
   rintro _ rfl a' w' hs'
   exact hK a' w' (hs'.putF (i := 6) rfl [0, 1, 2, 3] [] rfl rfl rfl rfl)
  ·intro L a w hv K Q hK
   have hs := hv
   refine wpOp_go rfl rfl hs (OpT_move rfl rfl rfl rfl) ?_
   rintro _ rfl a' w' hs'
   exact hK a' w' (hs'.putF (i := 7) rfl [0, 1, 2, 3] [] rfl rfl rfl rfl)
  ·intro L a w hv K Q hK
   have hs := hv
   refine wpOp_go rfl rfl hs (OpT_loadLAA rfl rfl rfl rfl tyF83 (i := 3) rfl m1.h) ?_
   rintro _ rfl a' w' hs'
   exact hK a' w' (hs'.putF (i := 8) rfl [0, 1, 2, 3] [] rfl rfl rfl rfl)
  ·intro L a w hL hv
   rw [allTrue hL] at hv
   have hs := hv
   refine gZ hs [34, 35, 36] [0, 1, 2] [] rfl rfl rfl rfl ?_
   clear hs hL
   obtain ⟨s1, hx1, h⟩ := ob_e h
   refine TA_step htb (by kernel_rfl) rfl rfl (OpT_idxO rfl rfl rfl rfl rfl slF68 (i := 1) rfl hx1) ?_
   refine TA_step htb (by kernel_rfl) rfl rfl (OpT_storeO (S := secS) (u := m1) rfl rfl rfl rfl rfl tyF83 (i := 1) rfl hx1 rfl) ?_
   refine TA_end rfl ?_
   obtain rfl := Option.some.inj h
   exact Tk_endV rfl rfl (resA (vs := []) rfl trivial) [0, 1, 2] [] rfl rfl rfl ⟨v1, rfl, rfl, rfl⟩
 ·intro HJ1
  rcases Bool.eq_false_or_eq_true ((!(mhas np1 sp0.fresh))) with hg1 | hg1
  ·replace h := br_t hg1 h
   refine Tk_condT (congrArg (fun b => some (Value.bool b)) hg1) ?_
   refine Tk_drawT (by kernel_rfl) ?_
   refine TA_tb [0, 1, 3, 7, 0, 0, 32, 96, 224, 0, 992, 2016, 4095] (by kernel_rfl) fun htb => ?_
   refine aZ [0, 1, 5] [0, 1, 2, 3] [] rfl rfl rfl rfl ?_
   obtain ⟨s2, hx2, h⟩ := ob_e h
   refine TA_seg (lo := 0) (hi := 12) htb rfl rfl (by kernel_rfl) (fun c L a w => Sat c ⟨[(0, some (.pointer (some ⟨b_sp0, 0, none⟩))), (1, some (vI np1)), (5, some (.pointer (some ⟨b1, 0, none⟩))), (19, bif L 0 then some (.pointer (some ⟨b_sp0, 0, none⟩)) else none), (20, bif L 1 then some (.pointer (some ⟨b_sp0, 0, none⟩)) else none), (21, bif L 2 then some (.pointer (some ⟨b_sp0, 1, none⟩)) else none), (22, bif L 3 then some (.map (some mb_sp0)) else none), (23, bif L 4 then some (vI np1) else none), (24, bif L 5 then some (.pointer (some ⟨b_sp0, 0, none⟩)) else none), (25, bif L 6 then some (.pointer (some ⟨b_sp0, 0, none⟩)) else none), (26, bif L 7 then some (.pointer (some ⟨b_sp0, 0, none⟩)) else none), (27, bif L 8 then some (vsp01) else none), (28, bif L 9 then some (vI np1) else none), (29, bif L 10 then some (rowPtr vsp01 (Int.toNat np1 * 512)) else none), (30, bif L 11 then some (.agg (s2.l.map vU8).toArray) else none)], [(some (cellsR b_sp0 71 [vsp01, .map (some mb_sp0)]) : Option Res), (some (rowS secS vsp01 sp0.l) : Option Res), (some (mapR mb_sp0 .i64 (fun x : Int => x) vSec sp0.fresh) : Option Res), (some (cellsR b1 83 (arg2.l.map vU8)) : Option Res)], []⟩ a w) [([], [1, 2, 3]), ([0], [2, 3]), ([0, 1], [3]), ([0, 1, 2], []), ([], []), ([], [6, 7, 8, 10, 11]), ([5], [7, 8, 10, 11]), ([5, 6], [8, 10, 11]), ([5, 6, 7], [10, 11]), ([], [10, 11]), ([5, 6, 7, 8, 9], [11]), ([5, 6, 7, 8, 9, 10], [])] rfl (by kernel_rfl) ?_ (steps_cons ?_ (steps_cons ?_ (steps_cons ?_ (steps_cons ?_ (steps_cons ?_ (steps_cons ?_ (steps_cons ?_ (steps_cons ?_ (steps_cons ?_ (steps_cons ?_ (steps_cons ?_ (steps_cons ?_ (steps_nil))))))))))))) ?_
   ·intro a w hs
    exact hs.startF [19, 20, 21, 22, 23, 24, 25, 26, 27, 28, 29, 30] [0, 1, 2, 3] [] rfl rfl rfl rfl
   ·intro L a w hv K Q hK
    have hs := hv
    refine wpOp_go rfl rfl hs (OpT_move rfl rfl rfl rfl) ?_
    rintro _ rfl a' w' hs'
    exact hK a' w' (hs'.putF (i := 3) rfl [0, 1, 2, 3] [] rfl rfl rfl rfl)
   ·intro L a w hv K Q hK
    have hs := hv
    refine wpOp_go rfl rfl hs (OpT_nilCheckP rfl rfl rfl rfl) ?_
    rintro _ rfl a' w' hs'
    exact hK a' w' (hs'.putF (i := 4) rfl [0, 1, 2, 3] [] rfl rfl rfl rfl)
   ·intro L a w hv K Q hK
    have hs := hv
    refine wpOp_go rfl rfl hs (OpT_fieldC rfl rfl rfl rfl fldF71x1) ?_
    rintro _ rfl a' w' hs'
    exact hK a' w' (hs'.putF (i := 5) rfl [0, 1, 2, 3] [] rfl rfl rfl rfl)
   ·intro L a w hv K Q hK
    have hs := hv
    refine wpOp_go rfl rfl hs (OpT_loadC rfl rfl rfl rfl tyF69 (i := 0) rfl rfl) ?_
    rintro _ rfl a' w' hs'
    exact hK a' w' (hs'.putF (i := 6) rfl [0, 1, 2, 3] [] rfl rfl rfl rfl)
   ·intro L a w hv K Q hK
    have hs := hv
    refine wpOp_go rfl rfl hs (OpT_move rfl rfl rfl rfl) ?_
    rintro _ rfl a' w' hs'
    exact hK a' w' (hs'.putF (i := 7) rfl [0, 1, 2, 3] [] rfl rfl rfl rfl)
   ·intro L a w hv K Q hK
    have hs := hv
    refine wpOp_go rfl rfl hs (OpT_move rfl rfl rfl rfl) ?_
    rintro _ rfl a' w' hs'
    exact hK a' w' (hs'.putF (i := 8) rfl [0, 1, 2, 3] [] rfl rfl rfl rfl)
   ·intro L a w hv K Q hK
    have hs := hv
    refine wpOp_go rfl rfl hs (OpT_nilCheckP rfl rfl rfl rfl) ?_
    rintro _ rfl a' w' hs'
    exact hK a' w' (hs'.putF (i := 9) rfl [0, 1, 2, 3] [] rfl rfl rfl rfl)
   ·intro L a w hv K Q hK
    have hs := hv
    refine wpOp_go rfl rfl hs (OpT_fieldC rfl rfl rfl rfl fldF71x0) ?_
    rintro _ rfl a' w' hs'
    exact hK a' w' (hs'.putF (i := 10) rfl [0, 1, 2, 3] [] rfl rfl rfl rfl)
   ·intro L a w hv K Q hK
    have hs := hv
    refine wpOp_go rfl rfl hs (OpT_loadC rfl rfl rfl rfl tyF68 (i := 0) rfl rfl) ?_
    rintro _ rfl a' w' hs'
    exact hK a' w' (hs'.putF (i := 11) rfl [0, 1, 2, 3] [] rfl rfl rfl rfl)
   ·intro L a w hv K Q hK
    have hs := hv
    refine wpOp_go rfl rfl hs (OpT_move rfl rfl rfl rfl) ?_
    rintro _ rfl a' w' hs'
    exact hK a' w' (hs'.putF (i := 12) rfl [0, 1, 2, 3] [] rfl rfl rfl rfl)
   ·intro L a w hv K Q hK
    have hs := hv
    refine wpOp_go rfl rfl hs (OpT_idxO rfl rfl rfl rfl rfl slF68 (i := 1) rfl hx2) ?_
    rintro _ rfl a' w' hs'
    exact hK a' w' (hs'.putF (i := 13) rfl [0, 1, 2, 3] [] rfl rfl rfl rfl)
   ·intro L a w hv K Q hK
    have hs := hv
    refine wpOp_go rfl rfl hs (OpT_loadOA (S := secS) (vs := s2.l.map vU8) rfl rfl rfl rfl rfl tyF83 (i := 1) rfl hx2 rfl) ?_
    rintro _ rfl a' w' hs'
    exact hK a' w' (hs'.putF (i := 14) rfl [0, 1, 2, 3] [] rfl rfl rfl rfl)
   ·intro L a w hL hv
    rw [allTrue hL] at hv
    have hs := hv
    refine gZ hs [0, 1, 5, 22, 23, 30] [0, 1, 2, 3] [] rfl rfl rfl rfl ?_
    clear hs hL
    refine TA_step htb (by kernel_rfl) rfl rfl (OpT_mapUpdate keyI np1 s2 (V := vSec) (z := Sec.z) rfl rfl rfl rfl rfl rfl Try.underlying69 Try.underlying3 (i := 2) rfl rfl) ?_
    refine TA_end rfl ?_
    refine tZ [0, 1, 5] [0, 1, 2, 3] [] rfl rfl rfl rfl ?_
    exact Tk_jmpS (HJ1 (sp0.l, mput np1 s2 sp0.fresh, arg2, vsp01) h) [0, 1, 5] [0, 1, 2, 3] [] rfl rfl rfl rfl
  ·replace h := br_f hg1 h
   refine Tk_condF (congrArg (fun b => some (Value.bool b)) hg1) ?_
   refine Tk_skip ?_
   exact Tk_jmpS (HJ1 (sp0.l, sp0.fresh, arg2, vsp01) h) [0, 1, 5] [0, 1, 2, 3] [] rfl rfl rfl rfl

set_option maxRecDepth 100000 in
set_option maxHeartbeats 4000000 in
theorem w_sectors_Store_Write {sp0 : sectors_Store} {atp1 : UInt64} {b : List UInt8} {b_sp0 : Nat} {vsp01 : Value} {mb_sp0 : Nat} {vb1 : Value} {r : (Int × sectors_Store)} (h : sectors_Store_Write sp0 atp1 b = some r) :
  Ctr Try.prog 55 #[.pointer (some ⟨b_sp0, 0, none⟩), vU64 atp1, vb1] [(cellsR b_sp0 71 [vsp01, .map (some mb_sp0)]), (rowS secS vsp01 sp0.l), (mapR mb_sp0 .i64 (fun x : Int => x) vSec sp0.fresh)] [Fact.sl u8S vb1 b]
   (fun rv own shr => ∃ (w1 : Value), rv = vI r.1 ∧ own = [(cellsR b_sp0 71 [w1, .map (some mb_sp0)]), (rowS secS w1 r.2.l), (mapR mb_sp0 .i64 (fun x : Int => x) vSec r.2.fresh)] ∧ shr = []) := by
 unfold sectors_Store_Write at h
 refine Ctr.mk (args := [.pointer (some ⟨b_sp0, 0, none⟩), vU64 atp1, vb1]) Try.func55 rfl rfl (fun R0 w0 B => ?_)
 refine Tk_seq (Tk_region (Tops_step rfl (OpT_assign rfl rfl rfl rfl) ?_))
 refine Tops_nil (tZ [0, 1, 2] [0, 1, 2] [0] rfl rfl rfl rfl ?_)
 refine Tk_seq (Tk_region (Tops_step rfl (OpT_move rfl rfl rfl rfl) ?_))
 refine Tops_step rfl (OpT_lenS rfl rfl rfl rfl Try.underlying26 (i := 0) rfl) ?_
 refine Tops_step rfl (OpT_bin rfl rfl rfl rfl rfl (bin_quo_i (a := len b) (b := (512 : Int)) rfl)) ?_
 refine Tops_step rfl (OpT_assign rfl rfl rfl rfl) ?_
 refine Tops_nil (tZ [0, 1, 2, 7] [0, 1, 2] [0] rfl rfl rfl rfl ?_)
 refine Tk_seq (Tk_block (Tk_seq (Tk_region (Tops_step rfl (OpT_move rfl rfl rfl rfl) ?_))))
 refine Tops_step rfl (OpT_ptrNil rfl rfl rfl (.inl rfl) rfl rfl ptrF22) ?_
 refine Tops_step rfl (OpT_assign rfl rfl rfl rfl) ?_
 refine Tops_nil (tZ [0, 1, 2, 7, 12] [0, 1, 2] [0] rfl rfl rfl rfl ?_)
 refine Tk_condF rfl ?_
 refine Tk_seq (Tk_region (Tops_step rfl (OpT_move rfl rfl rfl rfl) ?_))
 refine Tops_step rfl (OpT_lenS rfl rfl rfl rfl Try.underlying26 (i := 0) rfl) ?_
 refine Tops_step rfl (OpT_bin rfl rfl rfl rfl rfl (bin_rem_i (a := len b) (b := (512 : Int)) rfl)) ?_
 refine Tops_step rfl (OpT_bin rfl rfl rfl rfl rfl (bin_neq_i (a := remi (len b) (512 : Int)) (b := (0 : Int)))) ?_
 refine Tops_step rfl (OpT_assign rfl rfl rfl rfl) ?_
 refine Tops_nil (tZ [0, 1, 2, 7, 15] [0, 1, 2] [0] rfl rfl rfl rfl ?_)
 rcases Bool.eq_false_or_eq_true ((remi (len b) (512 : Int)) != (0 : Int)) with hg1 | hg1
 ·replace h := br_t hg1 h
  refine Tk_condT (congrArg (fun b => some (Value.bool b)) hg1) ?_
  refine Tk_seq (Tk_region (Tops_step rfl (OpT_assign rfl rfl rfl rfl) ?_))
  refine Tops_nil (tZ [6] [0, 1, 2] [] rfl rfl rfl rfl ?_)
  obtain rfl := Option.some.inj h
  exact Tk_retV rfl rfl (resA (vs := [vI (2 : Int)]) rfl ⟨rfl, trivial⟩) [0, 1, 2] [] rfl rfl rfl ⟨vsp01, rfl, rfl, rfl⟩
 ·replace h := br_f hg1 h
  refine Tk_condF (congrArg (fun b => some (Value.bool b)) hg1) ?_
  refine Tk_seq (Tk_region (Tops_step rfl (OpT_move rfl rfl rfl rfl) ?_))
  refine Tops_step rfl (OpT_move rfl rfl rfl rfl) ?_
  refine Tops_step rfl (OpT_move rfl rfl rfl rfl) ?_
  refine Tops_step rfl (OpT_cnv rfl rfl rfl rfl (cnv_i_u64 (n := quoi (len b) (512 : Int)) Try.underlying3 Try.underlying30)) ?_
  obtain ⟨has1, hx1, h⟩ := ob_e h
  refine Tops_exP rfl (OpT_callP [3, 4, 5] (w_sectors_Store_Has hx1) [0, 1, 2] [] rfl rfl rfl rfl rfl callee46 rfl rfl rfl rfl rfl) ?_
  rintro _ ⟨_, _, _, ⟨rfl, rfl, rfl⟩, rfl⟩
  refine Tops_step rfl (OpT_not rfl rfl rfl rfl) ?_
  refine Tops_step rfl (OpT_assign rfl rfl rfl rfl) ?_
  refine Tops_nil (tZ [0, 1, 2, 7, 20] [0, 1, 2] [0] rfl rfl rfl rfl ?_)
  rcases Bool.eq_false_or_eq_true ((!has1)) with hg2 | hg2
  ·replace h := br_t hg2 h
   refine Tk_condT (congrArg (fun b => some (Value.bool b)) hg2) ?_
   refine Tk_seq (Tk_region (Tops_step rfl (OpT_assign rfl rfl rfl rfl) ?_))
   refine Tops_nil (tZ [6] [0, 1, 2] [] rfl rfl rfl rfl ?_)
   obtain rfl := Option.some.inj h
   exact Tk_retV rfl rfl (resA (vs := [vI (5 : Int)]) rfl ⟨rfl, trivial⟩) [0, 1, 2] [] rfl rfl rfl ⟨vsp01, rfl, rfl, rfl⟩
  ·replace h := br_f hg2 h
   refine Tk_condF (congrArg (fun b => some (Value.bool b)) hg2) ?_
   refine Tk_skip (Tk_blk (Tk_seq (Tk_seq (Tk_region (Tops_step rfl (OpT_move rfl rfl rfl rfl) ?_)))))
   refine Tops_step rfl (OpT_move rfl rfl rfl rfl) ?_
   refine Tops_nil (tZ [0, 1, 2, 27, 28] [0, 1, 2] [0] rfl rfl rfl rfl ?_)
   refine Tk_block (Tk_loopS (σ := (List Sec) × (List (Int × Sec)) × Int × Value) [0, 1, 2, 27, 28] [0, 1, 2] [0] (fun s => ⟨[(0, some (.pointer (some ⟨b_sp0, 0, none⟩))), (1, some (vU64 atp1)), (2, some (vb1)), (27, some (vI (quoi (len b) (512 : Int)))), (28, some (vI s.2.2.1))], [some (cellsR b_sp0 71 [s.2.2.2, .map (some mb_sp0)]), some (rowS secS s.2.2.2 s.1), some (mapR mb_sp0 .i64 (fun x : Int => x) vSec s.2.1)], [Fact.sl u8S vb1 b]⟩) (fun nf1 s => sectors_Store_WriteL1 atp1 b nf1 s.1 s.2.1 s.2.2.1 = some r) fuel (sp0.l, sp0.fresh, (0 : Int), vsp01) h rfl rfl rfl rfl rfl (fun s h => by cases h) ?_)
   rintro nf1 ⟨l1, map1, x1, v1⟩ h
   replace h : sectors_Store_WriteL1B atp1 b (sectors_Store_WriteL1 atp1 b nf1) l1 map1 x1 = some r := h
   unfold sectors_Store_WriteL1B at h
   refine Tk_seq (Tk_region (Tops_step rfl (OpT_bin rfl rfl rfl rfl rfl (bin_lss_i (a := x1) (b := quoi (len b) (512 : Int)))) ?_))
   refine Tops_nil (Tk_seq ?_)
   rcases Bool.eq_false_or_eq_true (decide (x1 < (quoi (len b) (512 : Int)))) with hg3 | hg3
   ·replace h := br_t hg3 h
    refine Tk_condT (congrArg (fun b => some (Value.bool b)) hg3) ?_
    refine Tk_skip (Tk_seq (Tk_block (Tk_seq (Tk_region (Tops_step rfl (OpT_move rfl rfl rfl rfl) ?_)))))
    refine Tops_step rfl (OpT_assign rfl rfl rfl rfl) ?_
    refine Tops_nil (tZ [0, 1, 2, 27, 28, 8] [0, 1, 2] [0] rfl rfl rfl rfl ?_)
    refine Tk_region (Tops_step rfl (OpT_move rfl rfl rfl rfl) ?_)
    refine Tops_step rfl (OpT_move rfl rfl rfl rfl) ?_
    refine Tops_step rfl (OpT_cnv rfl rfl rfl rfl (cnv_u64_i (n := atp1) Try.underlying30 Try.underlying3)) ?_
    refine Tops_step rfl (OpT_move rfl rfl rfl rfl) ?_
    refine Tops_step rfl (OpT_bin rfl rfl rfl rfl rfl (bin_add_i (a := i64 atp1) (b := x1))) ?_
    refine Tops_step rfl (OpT_move rfl rfl rfl rfl) ?_
    refine Tops_step rfl (OpT_move rfl rfl rfl rfl) ?_
    refine Tops_step rfl (OpT_bin rfl rfl rfl rfl rfl (bin_mul_i (a := x1) (b := (512 : Int)))) ?_
    refine Tops_step rfl (OpT_move rfl rfl rfl rfl) ?_
    refine Tops_step rfl (OpT_bin rfl rfl rfl rfl rfl (bin_add_i (a := x1) (b := (1 : Int)))) ?_
    refine Tops_step rfl (OpT_bin rfl rfl rfl rfl rfl (bin_mul_i (a := wi (x1 + (1 : Int))) (b := (512 : Int)))) ?_
    obtain ⟨hc1, h⟩ := chk_e h
    refine Tops_ex rfl (OpT_sliceLH (l := wi (x1 * (512 : Int))) (m := wi ((wi (x1 + (1 : Int))) * (512 : Int))) rfl rfl rfl rfl rfl rfl slF26 (i := 0) rfl hc1) fun v2 => ?_
    obtain ⟨hc2, h⟩ := chk_e h
    refine Tops_ex rfl (OpT_toArr rfl rfl rfl rfl arrF83 (i := 1) rfl hc2 rfl) fun p1 => ?_
    obtain ⟨a1, ha1, h⟩ := ob_e h
    refine Tops_step rfl (OpT_loadArrE u8S rfl (f := vU8) (fun _ => rfl) rfl rfl rfl rfl tyF83 (i := 2) rfl rfl (Sec.of_eq ha1) rfl) ?_
    obtain ⟨put1, hx2, h⟩ := ob_e h
    refine Tops_exP rfl (OpT_callP [3, 4, 5] (w_sectors_Store_put hx2) [0, 1, 2] [] rfl rfl rfl rfl rfl callee62 rfl rfl rfl rfl rfl) ?_
    rintro _ ⟨_, _, _, ⟨v3, rfl, rfl, rfl⟩, rfl⟩
    refine Tops_nil (tZ [0, 1, 2, 27, 28] [0, 1, 2] [0] rfl rfl rfl rfl ?_)
    refine Tk_blk (Tk_region (Tops_step rfl (OpT_bin rfl rfl rfl rfl rfl (bin_add_i (a := x1) (b := (1 : Int)))) ?_))
    refine Tops_step rfl (OpT_move rfl rfl rfl rfl) ?_
    refine Tops_nil (tZ [0, 1, 2, 27, 28] [0, 1, 2] [0] rfl rfl rfl rfl ?_)
    exact Tk_backS (put1.l, put1.fresh, wi (x1 + (1 : Int)), v3) h [0, 1, 2, 27, 28] [0, 1, 2] [0] rfl rfl rfl rfl rfl
   ·replace h := br_f hg3 h
    refine Tk_condF (congrArg (fun b => some (Value.bool b)) hg3) ?_
    refine Tk_exit _ rfl ?_
    refine Tk_seq (Tk_region (Tops_step rfl (OpT_assign rfl rfl rfl rfl) ?_))
    refine Tops_nil (tZ [6] [0, 1, 2] [] rfl rfl rfl rfl ?_)
    obtain rfl := Option.some.inj h
    exact Tk_retV rfl rfl (resA (vs := [vI (0 : Int)]) rfl ⟨rfl, trivial⟩) [0, 1, 2] [] rfl rfl rfl ⟨v1, rfl, rfl, rfl⟩

set_option maxRecDepth 100000 in
set_option maxHeartbeats 4000000 in
theorem w_blk_work_out {wp0 : blk_work} {wp0_s : sectors_Store} {b_wp0 : Nat} {b_wp0_s : Nat} {vwp0s1 : Value} {mb_wp0_s : Nat} {vwp01 : Value} {r : ((List UInt8) × UInt8 × sectors_Store)} (h : blk_work_out wp0 wp0_s = some r) :
  Ctr Try.prog 39 #[.pointer (some ⟨b_wp0, 0, none⟩)] [(cellsR b_wp0 80 [.pointer (some ⟨b_wp0_s, 0, none⟩), vU64 wp0.feats, vS wp0.name, vwp01, vU64 wp0.at_, vU64 wp0.room]), (cellsR b_wp0_s 71 [vwp0s1, .map (some mb_wp0_s)]), (rowS secS vwp0s1 wp0_s.l), (mapR mb_wp0_s .i64 (fun x : Int => x) vSec wp0_s.fresh)] [Fact.sl u8S vwp01 wp0.data]
   (fun rv own shr => ∃ (w1 : Value), ∃ (w2 : Value), rv = .tuple #[w1, vU8 r.2.1] ∧ own = [(cellsR b_wp0 80 [.pointer (some ⟨b_wp0_s, 0, none⟩), vU64 wp0.feats, vS wp0.name, vwp01, vU64 wp0.at_, vU64 wp0.room]), (cellsR b_wp0_s 71 [w2, .map (some mb_wp0_s)]), (rowS secS w2 r.2.2.l), (mapR mb_wp0_s .i64 (fun x : Int => x) vSec r.2.2.fresh), (rowS u8S w1 r.1)] ∧ shr = []) := by
 unfold blk_work_out at h
 refine Ctr.mk (args := [.pointer (some ⟨b_wp0, 0, none⟩)]) Try.func39 rfl rfl (fun R0 w0 B => ?_)
 refine Tk_seq (Tk_region (Tops_step rfl (OpT_assign rfl rfl rfl rfl) ?_))
 refine Tops_step rfl (OpT_assign rfl rfl rfl rfl) ?_
 refine Tops_nil (tZ [0] [0, 1, 2, 3] [0] rfl rfl rfl rfl ?_)
 refine Tk_seq (Tk_seq (Tk_drawT (by kernel_rfl) ?_))
 refine TA_tb [0, 1, 3, 7, 15, 31, 63, 127, 255, 511, 63, 1087, 3135, 7231, 63, 16447, 49215, 114751, 262143, 524287, 1048575] (by kernel_rfl) fun htb => ?_
 refine TA_step htb (by kernel_rfl) rfl rfl (OpT_move rfl rfl rfl rfl) ?_
 refine TA_step htb (by kernel_rfl) rfl rfl (OpT_nilCheckP rfl rfl rfl rfl) ?_
 refine TA_step htb (by kernel_rfl) rfl rfl (OpT_fieldC rfl rfl rfl rfl fldF80x1) ?_
 refine TA_step htb (by kernel_rfl) rfl rfl (OpT_loadC rfl rfl rfl rfl tyF30 (i := 0) rfl rfl) ?_
 obtain ⟨has1, hx1, h⟩ := ob_e h
 refine TA_exP htb (by kernel_rfl) rfl rfl (OpT_call (w_feat_Has hx1) [] [] rfl rfl rfl rfl rfl callee54 rfl rfl rfl rfl) ?_
 rintro _ ⟨_, _, _, ⟨rfl, rfl, rfl⟩, rfl⟩
 refine TA_step htb (by kernel_rfl) rfl rfl (OpT_move rfl rfl rfl rfl) ?_
 refine aZ [0, 9] [0, 1, 2, 3] [0] rfl rfl rfl rfl ?_
 rcases Bool.eq_false_or_eq_true (has1) with hg1 | hg1
 ·replace h := br_t hg1 h
  refine TA_seg (lo := 6) (hi := 18) htb rfl rfl (by kernel_rfl) (fun c L a w => Sat c ⟨[(0, some (.pointer (some ⟨b_wp0, 0, none⟩))), (9, some (vB has1)), (10, bif L 6 then some (undef) else none), (11, bif L 7 then some (undef) else none), (12, bif L 8 then some (undef) else none), (13, bif L 9 then some (undef) else none), (14, bif L 10 then some (undef) else none), (15, bif L 11 then some (undef) else none), (16, bif L 12 then some (undef) else none), (17, bif L 13 then some (undef) else none), (18, bif L 14 then some (undef) else none), (19, bif L 15 then some (undef) else none), (20, bif L 16 then some (undef) else none), (21, bif L 17 then some (undef) else none)], [(some (cellsR b_wp0 80 [.pointer (some ⟨b_wp0_s, 0, none⟩), vU64 wp0.feats, vS wp0.name, vwp01, vU64 wp0.at_, vU64 wp0.room]) : Option Res), (some (cellsR b_wp0_s 71 [vwp0s1, .map (some mb_wp0_s)]) : Option Res), (some (rowS secS vwp0s1 wp0_s.l) : Option Res), (some (mapR mb_wp0_s .i64 (fun x : Int => x) vSec wp0_s.fresh) : Option Res)], [Fact.sl u8S vwp01 wp0.data]⟩ a w) [([], [7, 8, 9]), ([6], [8, 9]), ([6, 7], [9]), ([6, 7, 8], []), ([], [11, 12, 13]), ([10], [12, 13]), ([10, 11], [13]), ([10, 11, 12], []), ([], [15, 16, 17]), ([14], [16, 17]), ([14, 15], [17]), ([14, 15, 16], [])] rfl (by kernel_rfl) ?_ (steps_cons ?_ (steps_cons ?_ (steps_cons ?_ (steps_cons ?_ (steps_cons ?_ (steps_cons ?_ (steps_cons ?_ (steps_cons ?_ (steps_cons ?_ (steps_cons ?_ (steps_cons ?_ (steps_cons ?_ (steps_nil))))))))))))) ?_
  ·intro a w hs
   exact hs.startF [10, 11, 12, 13, 14, 15, 16, 17, 18, 19, 20, 21] [0, 1, 2, 3] [0] rfl rfl rfl rfl
  ·intro L a w hv K Q hK
   have hs := hv
   refine wpOp_no rfl rfl rfl hs (congrArg (fun b => some (Value.bool b)) hg1) rfl rfl ?_
   intro a' w' hs'
   exact hK a' w' (hs'.putF (i := 2) rfl [0, 1, 2, 3] [0] rfl rfl rfl rfl)
  ·intro L a w hv K Q hK
   have hs := hv
   refine wpOp_no rfl rfl rfl hs (congrArg (fun b => some (Value.bool b)) hg1) rfl rfl ?_
   intro a' w' hs'
   exact hK a' w' (hs'.putF (i := 3) rfl [0, 1, 2, 3] [0] rfl rfl rfl rfl)
  ·intro L a w hv K Q hK
   have hs := hv
   refine wpOp_no rfl rfl rfl hs (congrArg (fun b => some (Value.bool b)) hg1) rfl rfl ?_
   intro a' w' hs'
   exact hK a' w' (hs'.putF (i := 4) rfl [0, 1, 2, 3] [0] rfl rfl rfl rfl)
  ·intro L a w hv K Q hK
   have hs := hv
   refine wpOp_no rfl rfl rfl hs (congrArg (fun b => some (Value.bool b)) hg1) rfl rfl ?_
   intro a' w' hs'
   exact hK a' w' (hs'.putF (i := 5) rfl [0, 1, 2, 3] [0] rfl rfl rfl rfl)
  ·intro L a w hv K Q hK
   have hs := hv
   refine wpOp_no rfl rfl rfl hs (congrArg (fun b => some (Value.bool b)) hg1) rfl rfl ?_
   intro a' w' hs'
   exact hK a' w' (hs'.putF (i := 6) rfl [0, 1, 2, 3] [0] rfl rfl rfl rfl)
  ·intro L a w hv K Q hK
   have hs := hv
   refine wpOp_no rfl rfl rfl hs (congrArg (fun b => some (Value.bool b)) hg1) rfl rfl ?_
   intro a' w' hs'
   exact hK a' w' (hs'.putF (i := 7) rfl [0, 1, 2, 3] [0] rfl rfl rfl rfl)
  ·intro L a w hv K Q hK
   have hs := hv
   refine wpOp_no rfl rfl rfl hs (congrArg (fun b => some (Value.bool b)) hg1) rfl rfl ?_
   intro a' w' hs'
   exact hK a' w' (hs'.putF (i := 8) rfl [0, 1, 2, 3] [0] rfl rfl rfl rfl)
  ·intro L a w hv K Q hK
   have hs := hv
   refine wpOp_no rfl rfl rfl hs (congrArg (fun b => some (Value.bool b)) hg1) rfl rfl ?_
   intro a' w' hs'
   exact hK a' w' (hs'.putF (i := 9) rfl [0, 1, 2, 3] [0] rfl rfl rfl rfl)
  ·intro L a w hv K Q hK
   have hs := hv
   refine wpOp_no rfl rfl rfl hs (congrArg (fun b => some (Value.bool b)) hg1) rfl rfl ?_
   intro a' w' hs'
   exact hK a' w' (hs'.putF (i := 10) rfl [0, 1, 2, 3] [0] rfl rfl rfl rfl)
  ·intro L a w hv K Q hK
   have hs := hv
   refine wpOp_no rfl rfl rfl hs (congrArg (fun b => some (Value.bool b)) hg1) rfl rfl ?_
   intro a' w' hs'
   exact hK a' w' (hs'.putF (i := 11) rfl [0, 1, 2, 3] [0] rfl rfl rfl rfl)
  ·intro L a w hv K Q hK
   have hs := hv
   refine wpOp_no rfl rfl rfl hs (congrArg (fun b => some (Value.bool b)) hg1) rfl rfl ?_
   intro a' w' hs'
   exact hK a' w' (hs'.putF (i := 12) rfl [0, 1, 2, 3] [0] rfl rfl rfl rfl)
  ·intro L a w hv K Q hK
   have hs := hv
   refine wpOp_no rfl rfl rfl hs (congrArg (fun b => some (Value.bool b)) hg1) rfl rfl ?_
   intro a' w' hs'
   exact hK a' w' (hs'.putF (i := 13) rfl [0, 1, 2, 3] [0] rfl rfl rfl rfl)
  ·intro L a w hL hv
   rw [allTrue hL] at hv
   have hs := hv
   refine gZ hs [9, 13, 17, 21] [0, 1, 2, 3] [0] rfl rfl rfl rfl ?_
   clear hs hL
   refine TA_no htb (by kernel_rfl) rfl rfl rfl (congrArg (fun b => some (Value.bool b)) hg1) rfl rfl ?_
   refine TA_no htb (by kernel_rfl) rfl rfl rfl (congrArg (fun b => some (Value.bool b)) hg1) rfl rfl ?_
   refine TA_step htb (by kernel_rfl) rfl rfl (OpT_pickT rfl rfl rfl (congrArg (fun b => some (Value.bool b)) hg1) rfl) ?_
   refine TA_end rfl ?_
   refine tZ [24] [0, 1, 2, 3] [0] rfl rfl rfl rfl ?_
   refine Tk_condT rfl ?_
   refine Tk_seq (Tk_region (Tops_step rfl (OpT_assign rfl rfl rfl rfl) ?_))
   refine Tops_step rfl (OpT_assign rfl rfl rfl rfl) ?_
   refine Tops_nil (tZ [2, 3] [0, 1, 2, 3] [0] rfl rfl rfl rfl ?_)
   refine Tk_nilrow u8S ?_
   obtain rfl := Option.some.inj h
   exact Tk_retV rfl rfl (resA (vs := [.slice none 0 0, vU8 (1 : UInt8)]) rfl ⟨rfl, rfl, trivial⟩) [0, 1, 2, 3, 4] [] rfl rfl rfl ⟨(.slice none 0 0), vwp0s1, rfl, rfl, rfl⟩
 ·replace h := br_f hg1 h
  refine TA_seg (lo := 6) (hi := 18) htb rfl rfl (by kernel_rfl) (fun c L a w => Sat c ⟨[(0, some (.pointer (some ⟨b_wp0, 0, none⟩))), (9, some (vB has1)), (10, bif L 6 then some (.pointer (some ⟨b_wp0, 0, none⟩)) else none), (11, bif L 7 then some (.pointer (some ⟨b_wp0, 0, none⟩)) else none), (12, bif L 8 then some (.pointer (some ⟨b_wp0, 0, none⟩)) else none), (13, bif L 9 then some (.pointer (some ⟨b_wp0_s, 0, none⟩)) else none), (14, bif L 10 then some (.pointer (some ⟨b_wp0, 0, none⟩)) else none), (15, bif L 11 then some (.pointer (some ⟨b_wp0, 0, none⟩)) else none), (16, bif L 12 then some (.pointer (some ⟨b_wp0, 4, none⟩)) else none), (17, bif L 13 then some (vU64 wp0.at_) else none), (18, bif L 14 then some (.pointer (some ⟨b_wp0, 0, none⟩)) else none), (19, bif L 15 then some (.pointer (some ⟨b_wp0, 0, none⟩)) else none), (20, bif L 16 then some (.pointer (some ⟨b_wp0, 3, none⟩)) else none), (21, bif L 17 then some (vwp01) else none)], [(some (cellsR b_wp0 80 [.pointer (some ⟨b_wp0_s, 0, none⟩), vU64 wp0.feats, vS wp0.name, vwp01, vU64 wp0.at_, vU64 wp0.room]) : Option Res), (some (cellsR b_wp0_s 71 [vwp0s1, .map (some mb_wp0_s)]) : Option Res), (some (rowS secS vwp0s1 wp0_s.l) : Option Res), (some (mapR mb_wp0_s .i64 (fun x : Int => x) vSec wp0_s.fresh) : Option Res)], [Fact.sl u8S vwp01 wp0.data]⟩ a w) [([], [7, 8, 9]), ([6], [8, 9]), ([6, 7], [9]), ([6, 7, 8], []), ([], [11, 12, 13]), ([10], [12, 13]), ([10, 11], [13]), ([10, 11, 12], []), ([], [15, 16, 17]), ([14], [16, 17]), ([14, 15], [17]), ([14, 15, 16], [])] rfl (by kernel_rfl) ?_ (steps_cons ?_ (steps_cons ?_ (steps_cons ?_ (steps_cons ?_ (steps_cons ?_ (steps_cons ?_ (steps_cons ?_ (steps_cons ?_ (steps_cons ?_ (steps_cons ?_ (steps_cons ?_ (steps_cons ?_ (steps_nil))))))))))))) ?_
  ·intro a w hs
   exact hs.startF [10, 11, 12, 13, 14, 15, 16, 17, 18, 19, 20, 21] [0, 1, 2, 3] [0] rfl rfl rfl rfl
  ·intro L a w hv K Q hK
   have hs := hv
   refine wpOp_yes rfl rfl rfl hs (congrArg (fun b => some (Value.bool b)) hg1) (OpT_move rfl rfl rfl rfl) ?_
   rintro _ rfl a' w' hs'
   exact hK a' w' (hs'.putF (i := 2) rfl [0, 1, 2, 3] [0] rfl rfl rfl rfl)
  ·intro L a w hv K Q hK
   have hs := hv
   refine wpOp_yes rfl rfl rfl hs (congrArg (fun b => some (Value.bool b)) hg1) (OpT_nilCheckP rfl rfl rfl rfl) ?_
   rintro _ rfl a' w' hs'
   exact hK a' w' (hs'.putF (i := 3) rfl [0, 1, 2, 3] [0] rfl rfl rfl rfl)
  ·intro L a w hv K Q hK
   have hs := hv
   refine wpOp_yes rfl rfl rfl hs (congrArg (fun b => some (Value.bool b)) hg1) (OpT_fieldC rfl rfl rfl rfl fldF80x0) ?_
   rintro _ rfl a' w' hs'
   exact hK a' w' (hs'.putF (i := 4) rfl [0, 1, 2, 3] [0] rfl rfl rfl rfl)
  ·intro L a w hv K Q hK
   have hs := hv
   refine wpOp_yes rfl rfl rfl hs (congrArg (fun b => some (Value.bool b)) hg1) (OpT_loadC rfl rfl rfl rfl tyF22 (i := 0) rfl rfl) ?_
   rintro _ rfl a' w' hs'
   exact hK a' w' (hs'.putF (i := 5) rfl [0, 1, 2, 3] [0] rfl rfl rfl rfl)
  ·intro L a w hv K Q hK
   have hs := hv
   refine wpOp_yes rfl rfl rfl hs (congrArg (fun b => some (Value.bool b)) hg1) (OpT_move rfl rfl rfl rfl) ?_
   rintro _ rfl a' w' hs'
   exact hK a' w' (hs'.putF (i := 6) rfl [0, 1, 2, 3] [0] rfl rfl rfl rfl)
  ·intro L a w hv K Q hK
   have hs := hv
   refine wpOp_yes rfl rfl rfl hs (congrArg (fun b => some (Value.bool b)) hg1) (OpT_nilCheckP rfl rfl rfl rfl) ?_
   rintro _ rfl a' w' hs'
   exact hK a' w' (hs'.putF (i := 7) rfl [0, 1, 2, 3] [0] rfl rfl rfl rfl)
  ·intro L a w hv K Q hK
   have hs := hv
   refine wpOp_yes rfl rfl rfl hs (congrArg (fun b => some (Value.bool b)) hg1) (OpT_fieldC rfl rfl rfl rfl fldF80x4) ?_
   rintro _ rfl a' w' hs'
   exact hK a' w' (hs'.putF (i := 8) rfl [0, 1, 2, 3] [0] rfl rfl rfl rfl)
  ·intro L a w hv K Q hK
   have hs := hv
   refine wpOp_yes rfl rfl rfl hs (congrArg (fun b => some (Value.bool b)) hg1) (OpT_loadC rfl rfl rfl rfl tyF30 (i := 0) rfl rfl) ?_
   rintro _ rfl a' w' hs'
   exact hK a' w' (hs'.putF (i := 9) rfl [0, 1, 2, 3] [0] rfl rfl rfl rfl)
  ·intro L a w hv K Q hK
   have hs := hv
   refine wpOp_yes rfl rfl rfl hs (congrArg (fun b => some (Value.bool b)) hg1) (OpT_move rfl rfl rfl rfl) ?_
   rintro _ rfl a' w' hs'
   exact hK a' w' (hs'.putF (i := 10) rfl [0, 1, 2, 3] [0] rfl rfl rfl rfl)
  ·intro L a w hv K Q hK
   have hs := hv
   refine wpOp_yes rfl rfl rfl hs (congrArg (fun b => some (Value.bool b)) hg1) (OpT_nilCheckP rfl rfl rfl rfl) ?_
   rintro _ rfl a' w' hs'
   exact hK a' w' (hs'.putF (i := 11) rfl [0, 1, 2, 3] [0] rfl rfl rfl rfl)
  ·intro L a w hv K Q hK
   have hs := hv
   refine wpOp_yes rfl rfl rfl hs (congrArg (fun b => some (Value.bool b)) hg1) (OpT_fieldC rfl rfl rfl rfl fldF80x3) ?_
   rintro _ rfl a' w' hs'
   exact hK a' w' (hs'.putF (i := 12) rfl [0, 1, 2, 3] [0] rfl rfl rfl rfl)
  ·intro L a w hv K Q hK
   have hs := hv
   refine wpOp_yes rfl rfl rfl hs (congrArg (fun b => some (Value.bool b)) hg1) (OpT_loadC rfl rfl rfl rfl tyF26 (i := 0) rfl rfl) ?_
   rintro _ rfl a' w' hs'
   exact hK a' w' (hs'.putF (i := 13) rfl [0, 1, 2, 3] [0] rfl rfl rfl rfl)
  ·intro L a w hL hv
   rw [allTrue hL] at hv
   have hs := hv
   refine gZ hs [9, 13, 17, 21] [0, 1, 2, 3] [0] rfl rfl rfl rfl ?_
   clear hs hL
   obtain ⟨write1, hx2, h⟩ := ob_e h
   refine TA_yes htb (by kernel_rfl) rfl rfl rfl (congrArg (fun b => some (Value.bool b)) hg1) (OpT_callP [0, 4, 5, 6] (w_sectors_Store_Write hx2) [1, 2, 3] [0] rfl rfl rfl rfl rfl callee55 rfl rfl rfl rfl rfl) ?_
   rintro _ ⟨_, _, _, ⟨v1, rfl, rfl, rfl⟩, rfl⟩
   refine TA_yes htb (by kernel_rfl) rfl rfl rfl (congrArg (fun b => some (Value.bool b)) hg1) (OpT_bin rfl rfl rfl rfl rfl (bin_neq_i (a := write1.1) (b := (0 : Int)))) ?_
   rintro _ rfl
   refine TA_step htb (by kernel_rfl) rfl rfl (OpT_pickF rfl rfl rfl (congrArg (fun b => some (Value.bool b)) hg1) rfl) ?_
   refine TA_end rfl ?_
   refine tZ [24] [0, 1, 2, 3] [0] rfl rfl rfl rfl ?_
   rcases Bool.eq_false_or_eq_true (write1.1 != (0 : Int)) with hg2 | hg2
   ·replace h := br_t hg2 h
    refine Tk_condT (congrArg (fun b => some (Value.bool b)) hg2) ?_
    refine Tk_seq (Tk_region (Tops_step rfl (OpT_assign rfl rfl rfl rfl) ?_))
    refine Tops_step rfl (OpT_assign rfl rfl rfl rfl) ?_
    refine Tops_nil (tZ [2, 3] [0, 1, 2, 3] [0] rfl rfl rfl rfl ?_)
    refine Tk_nilrow u8S ?_
    obtain rfl := Option.some.inj h
    exact Tk_retV rfl rfl (resA (vs := [.slice none 0 0, vU8 (1 : UInt8)]) rfl ⟨rfl, rfl, trivial⟩) [0, 1, 2, 3, 4] [] rfl rfl rfl ⟨(.slice none 0 0), v1, rfl, rfl, rfl⟩
   ·replace h := br_f hg2 h
    refine Tk_condF (congrArg (fun b => some (Value.bool b)) hg2) ?_
    refine Tk_skip (Tk_seq (Tk_region (Tops_step rfl (OpT_assign rfl rfl rfl rfl) ?_)))
    refine Tops_step rfl (OpT_assign rfl rfl rfl rfl) ?_
    refine Tops_nil (tZ [2, 3] [0, 1, 2, 3] [0] rfl rfl rfl rfl ?_)
    refine Tk_nilrow u8S ?_
    obtain rfl := Option.some.inj h
    exact Tk_retV rfl rfl (resA (vs := [.slice none 0 0, vU8 (0 : UInt8)]) rfl ⟨rfl, rfl, trivial⟩) [0, 1, 2, 3, 4] [] rfl rfl rfl ⟨(.slice none 0 0), v1, rfl, rfl, rfl⟩

set_option maxRecDepth 100000 in
set_option maxHeartbeats 4000000 in
theorem w_sectors_Store_Flush {sp0 : sectors_Store} {b_sp0 : Nat} {vsp01 : Value} {mb_sp0 : Nat} {r : (Int × sectors_Store)} (h : sectors_Store_Flush sp0 = some r) :
  Ctr Try.prog 56 #[.pointer (some ⟨b_sp0, 0, none⟩)] [(cellsR b_sp0 71 [vsp01, .map (some mb_sp0)]), (rowS secS vsp01 sp0.l), (mapR mb_sp0 .i64 (fun x : Int => x) vSec sp0.fresh)] []
   (fun rv own shr => ∃ (w1 : Value), rv = vI r.1 ∧ own = [(cellsR b_sp0 71 [w1, .map (some mb_sp0)]), (rowS secS w1 r.2.l), (mapR mb_sp0 .i64 (fun x : Int => x) vSec r.2.fresh)] ∧ shr = []) := by
 unfold sectors_Store_Flush at h
 refine Ctr.mk (args := [.pointer (some ⟨b_sp0, 0, none⟩)]) Try.func56 rfl rfl (fun R0 w0 B => ?_)
 refine Tk_seq (Tk_region (Tops_step rfl (OpT_assign rfl rfl rfl rfl) ?_))
 refine Tops_nil (tZ [0] [0, 1, 2] [] rfl rfl rfl rfl ?_)
 refine Tk_seq (Tk_seq (Tk_region (Tops_step rfl (OpT_move rfl rfl rfl rfl) ?_)))
 refine Tops_step rfl (OpT_ptrNil rfl rfl rfl (.inl rfl) rfl rfl ptrF22) ?_
 refine Tops_nil (tZ [0, 4] [0, 1, 2] [] rfl rfl rfl rfl ?_)
 refine Tk_condF rfl ?_
 refine Tk_skip (Tk_seq (Tk_region (Tops_step rfl (OpT_move rfl rfl rfl rfl) ?_)))
 refine Tops_step rfl (OpT_nilCheckP rfl rfl rfl rfl) ?_
 refine Tops_step rfl (OpT_fieldC rfl rfl rfl rfl fldF71x1) ?_
 refine Tops_step rfl (OpT_loadC rfl rfl rfl rfl tyF69 (i := 0) rfl rfl) ?_
 refine Tops_step rfl (OpT_clearM rfl rfl rfl Try.underlying69 (i := 2) rfl) ?_
 refine Tops_nil (tZ [] [0, 1, 2] [] rfl rfl rfl rfl ?_)
 refine Tk_seq (Tk_region (Tops_step rfl (OpT_assign rfl rfl rfl rfl) ?_))
 refine Tops_nil ?_
 obtain rfl := Option.some.inj h
 exact Tk_retV rfl rfl (resA (vs := [vI (0 : Int)]) rfl ⟨rfl, trivial⟩) [0, 1, 2] [] rfl rfl rfl ⟨vsp01, rfl, rfl, rfl⟩

set_option maxRecDepth 100000 in
set_option maxHeartbeats 4000000 in
theorem w_blk_work_sync {wp0 : blk_work} {wp0_s : sectors_Store} {b_wp0 : Nat} {b_wp0_s : Nat} {vwp0s1 : Value} {mb_wp0_s : Nat} {vwp01 : Value} {r : ((List UInt8) × UInt8 × sectors_Store)} (h : blk_work_sync wp0 wp0_s = some r) :
  Ctr Try.prog 40 #[.pointer (some ⟨b_wp0, 0, none⟩)] [(cellsR b_wp0 80 [.pointer (some ⟨b_wp0_s, 0, none⟩), vU64 wp0.feats, vS wp0.name, vwp01, vU64 wp0.at_, vU64 wp0.room]), (cellsR b_wp0_s 71 [vwp0s1, .map (some mb_wp0_s)]), (rowS secS vwp0s1 wp0_s.l), (mapR mb_wp0_s .i64 (fun x : Int => x) vSec wp0_s.fresh)] [Fact.sl u8S vwp01 wp0.data]
   (fun rv own shr => ∃ (w1 : Value), ∃ (w2 : Value), rv = .tuple #[w1, vU8 r.2.1] ∧ own = [(cellsR b_wp0 80 [.pointer (some ⟨b_wp0_s, 0, none⟩), vU64 wp0.feats, vS wp0.name, vwp01, vU64 wp0.at_, vU64 wp0.room]), (cellsR b_wp0_s 71 [w2, .map (some mb_wp0_s)]), (rowS secS w2 r.2.2.l), (mapR mb_wp0_s .i64 (fun x : Int => x) vSec r.2.2.fresh), (rowS u8S w1 r.1)] ∧ shr = []) := by
 unfold blk_work_sync at h
 refine Ctr.mk (args := [.pointer (some ⟨b_wp0, 0, none⟩)]) Try.func40 rfl rfl (fun R0 w0 B => ?_)
 refine Tk_seq (Tk_region (Tops_step rfl (OpT_assign rfl rfl rfl rfl) ?_))
 refine Tops_step rfl (OpT_assign rfl rfl rfl rfl) ?_
 refine Tops_nil (tZ [0] [0, 1, 2, 3] [0] rfl rfl rfl rfl ?_)
 refine Tk_seq (Tk_seq (Tk_region (Tops_step rfl (OpT_move rfl rfl rfl rfl) ?_)))
 refine Tops_step rfl (OpT_nilCheckP rfl rfl rfl rfl) ?_
 refine Tops_step rfl (OpT_fieldC rfl rfl rfl rfl fldF80x1) ?_
 refine Tops_step rfl (OpT_loadC rfl rfl rfl rfl tyF30 (i := 0) rfl rfl) ?_
 obtain ⟨has1, hx1, h⟩ := ob_e h
 refine Tops_exP rfl (OpT_call (w_feat_Has hx1) [] [] rfl rfl rfl rfl rfl callee54 rfl rfl rfl rfl) ?_
 rintro _ ⟨_, _, _, ⟨rfl, rfl, rfl⟩, rfl⟩
 refine Tops_step rfl (OpT_not rfl rfl rfl rfl) ?_
 refine Tops_nil (tZ [0, 9] [0, 1, 2, 3] [0] rfl rfl rfl rfl ?_)
 rcases Bool.eq_false_or_eq_true ((!has1)) with hg1 | hg1
 ·replace h := br_t hg1 h
  refine Tk_condT (congrArg (fun b => some (Value.bool b)) hg1) ?_
  refine Tk_seq (Tk_region (Tops_step rfl (OpT_assign rfl rfl rfl rfl) ?_))
  refine Tops_step rfl (OpT_assign rfl rfl rfl rfl) ?_
  refine Tops_nil (tZ [2, 3] [0, 1, 2, 3] [0] rfl rfl rfl rfl ?_)
  refine Tk_nilrow u8S ?_
  obtain rfl := Option.some.inj h
  exact Tk_retV rfl rfl (resA (vs := [.slice none 0 0, vU8 (2 : UInt8)]) rfl ⟨rfl, rfl, trivial⟩) [0, 1, 2, 3, 4] [] rfl rfl rfl ⟨(.slice none 0 0), vwp0s1, rfl, rfl, rfl⟩
 ·replace h := br_f hg1 h
  refine Tk_condF (congrArg (fun b => some (Value.bool b)) hg1) ?_
  refine Tk_skip (Tk_seq (Tk_region (Tops_step rfl (OpT_move rfl rfl rfl rfl) ?_)))
  refine Tops_step rfl (OpT_nilCheckP rfl rfl rfl rfl) ?_
  refine Tops_step rfl (OpT_fieldC rfl rfl rfl rfl fldF80x0) ?_
  refine Tops_step rfl (OpT_loadC rfl rfl rfl rfl tyF22 (i := 0) rfl rfl) ?_
  obtain ⟨flush1, hx2, h⟩ := ob_e h
  refine Tops_exP rfl (OpT_callP [0, 4, 5, 6] (w_sectors_Store_Flush hx2) [1, 2, 3] [] rfl rfl rfl rfl rfl callee56 rfl rfl rfl rfl rfl) ?_
  rintro _ ⟨_, _, _, ⟨v1, rfl, rfl, rfl⟩, rfl⟩
  refine Tops_nil (tZ [] [0, 1, 2, 3] [0] rfl rfl rfl rfl ?_)
  refine Tk_seq (Tk_region (Tops_step rfl (OpT_assign rfl rfl rfl rfl) ?_))
  refine Tops_step rfl (OpT_assign rfl rfl rfl rfl) ?_
  refine Tops_nil (Tk_nilrow u8S ?_)
  obtain rfl := Option.some.inj h
  exact Tk_retV rfl rfl (resA (vs := [.slice none 0 0, vU8 (0 : UInt8)]) rfl ⟨rfl, rfl, trivial⟩) [0, 1, 2, 3, 4] [] rfl rfl rfl ⟨(.slice none 0 0), v1, rfl, rfl, rfl⟩

set_option maxRecDepth 100000 in
set_option maxHeartbeats 4000000 in
theorem w_blk_work_id {wp0 : blk_work} {wp0_s : sectors_Store} {b_wp0 : Nat} {b_wp0_s : Nat} {vwp0s1 : Value} {mb_wp0_s : Nat} {vwp01 : Value} {r : ((List UInt8) × UInt8)} (h : blk_work_id wp0 wp0_s = some r) :
  Ctr Try.prog 41 #[.pointer (some ⟨b_wp0, 0, none⟩)] [(cellsR b_wp0 80 [.pointer (some ⟨b_wp0_s, 0, none⟩), vU64 wp0.feats, vS wp0.name, vwp01, vU64 wp0.at_, vU64 wp0.room]), (cellsR b_wp0_s 71 [vwp0s1, .map (some mb_wp0_s)]), (rowS secS vwp0s1 wp0_s.l), (mapR mb_wp0_s .i64 (fun x : Int => x) vSec wp0_s.fresh)] [Fact.sl u8S vwp01 wp0.data]
   (fun rv own shr => ∃ (w1 : Value), rv = .tuple #[w1, vU8 r.2] ∧ own = [(cellsR b_wp0 80 [.pointer (some ⟨b_wp0_s, 0, none⟩), vU64 wp0.feats, vS wp0.name, vwp01, vU64 wp0.at_, vU64 wp0.room]), (cellsR b_wp0_s 71 [vwp0s1, .map (some mb_wp0_s)]), (rowS secS vwp0s1 wp0_s.l), (mapR mb_wp0_s .i64 (fun x : Int => x) vSec wp0_s.fresh), (rowS u8S w1 r.1)] ∧ shr = []) := by
 unfold blk_work_id at h
 refine Ctr.mk (args := [.pointer (some ⟨b_wp0, 0, none⟩)]) Try.func41 rfl rfl (fun R0 w0 B => ?_)
 refine Tk_seq (Tk_region (Tops_step rfl (OpT_assign rfl rfl rfl rfl) ?_))
 refine Tops_step rfl (OpT_assign rfl rfl rfl rfl) ?_
 refine Tops_nil (tZ [0] [0, 1, 2, 3] [0] rfl rfl rfl rfl ?_)
 refine Tk_seq (Tk_seq (Tk_region (Tops_step rfl (OpT_move rfl rfl rfl rfl) ?_)))
 refine Tops_step rfl (OpT_nilCheckP rfl rfl rfl rfl) ?_
 refine Tops_step rfl (OpT_fieldC rfl rfl rfl rfl fldF80x5) ?_
 refine Tops_step rfl (OpT_loadC rfl rfl rfl rfl tyF30 (i := 0) rfl rfl) ?_
 refine Tops_step rfl (OpT_bin rfl rfl rfl rfl rfl (bin_lss_u64 (a := wp0.room) (b := (20 : UInt64)))) ?_
 refine Tops_nil (tZ [0, 9] [0, 1, 2, 3] [0] rfl rfl rfl rfl ?_)
 rcases Bool.eq_false_or_eq_true (decide (wp0.room < (20 : UInt64))) with hg1 | hg1
 ·replace h := br_t hg1 h
  refine Tk_condT (congrArg (fun b => some (Value.bool b)) hg1) ?_
  refine Tk_seq (Tk_region (Tops_step rfl (OpT_assign rfl rfl rfl rfl) ?_))
  refine Tops_step rfl (OpT_assign rfl rfl rfl rfl) ?_
  refine Tops_nil (tZ [2, 3] [0, 1, 2, 3] [0] rfl rfl rfl rfl ?_)
  refine Tk_nilrow u8S ?_
  obtain rfl := Option.some.inj h
  exact Tk_retV rfl rfl (resA (vs := [.slice none 0 0, vU8 (1 : UInt8)]) rfl ⟨rfl, rfl, trivial⟩) [0, 1, 2, 3, 4] [] rfl rfl rfl ⟨(.slice none 0 0), rfl, rfl, rfl⟩
 ·replace h := br_f hg1 h
  refine Tk_condF (congrArg (fun b => some (Value.bool b)) hg1) ?_
  refine Tk_skip (Tk_seq (Tk_region ?_))
  obtain ⟨hc1, h⟩ := chk_e h
  refine Tops_ex rfl (OpT_makeD u8S rfl (u := (0 : UInt8)) rfl rfl rfl rfl rfl slF26 rfl hc1) fun v1 => ?_
  refine Tops_step rfl (OpT_assign rfl rfl rfl rfl) ?_
  refine Tops_nil (tZ [0, 4] [0, 1, 2, 3, 4] [0] rfl rfl rfl rfl ?_)
  refine Tk_seq (Tk_region (Tops_step rfl (OpT_move rfl rfl rfl rfl) ?_))
  refine Tops_step rfl (OpT_move rfl rfl rfl rfl) ?_
  refine Tops_step rfl (OpT_nilCheckP rfl rfl rfl rfl) ?_
  refine Tops_step rfl (OpT_fieldC rfl rfl rfl rfl fldF80x2) ?_
  refine Tops_step rfl (OpT_loadC rfl rfl rfl rfl tyF9 (i := 0) rfl rfl) ?_
  refine Tops_step rfl (OpT_copyStr rfl rfl rfl rfl rfl slF26 (i := 4) rfl) ?_
  refine Tops_nil (tZ [4] [0, 1, 2, 3, 4] [0] rfl rfl rfl rfl ?_)
  refine Tk_seq (Tk_region (Tops_step rfl (OpT_move rfl rfl rfl rfl) ?_))
  refine Tops_step rfl (OpT_assign rfl rfl rfl rfl) ?_
  refine Tops_step rfl (OpT_assign rfl rfl rfl rfl) ?_
  refine Tops_nil (tZ [2, 3] [0, 1, 2, 3, 4] [0] rfl rfl rfl rfl ?_)
  obtain rfl := Option.some.inj h
  exact Tk_retV rfl rfl (resA (vs := [v1, vU8 (0 : UInt8)]) rfl ⟨rfl, rfl, trivial⟩) [0, 1, 2, 3, 4] [] rfl rfl rfl ⟨v1, rfl, rfl, rfl⟩

set_option maxRecDepth 100000 in
set_option maxHeartbeats 4000000 in
theorem w_blk_work_ranges_1 {arg0 : List UInt8} {b_arg0 : Nat} {varg01 : Value} {r : (UInt64 × UInt64 × UInt64 × Bool × (List UInt8))} (h : blk_work_ranges_1 arg0 = some r) :
  Ctr Try.prog 57 #[.pointer (some ⟨b_arg0, 0, none⟩)] [(cellsR b_arg0 26 [varg01])] [Fact.sl u8S varg01 arg0]
   (fun rv own shr => ∃ (w1 : Value), rv = .tuple #[vU64 r.1, vU64 r.2.1, vU64 r.2.2.1, vB r.2.2.2.1] ∧ own = [(cellsR b_arg0 26 [w1])] ∧ shr = [Fact.sl u8S w1 r.2.2.2.2]) := by
 unfold blk_work_ranges_1 at h
 refine Ctr.mk (args := [.pointer (some ⟨b_arg0, 0, none⟩)]) Try.func57 rfl rfl (fun R0 w0 B => ?_)
 refine Tk_seq (Tk_region (Tops_step rfl (OpT_assign rfl rfl rfl rfl) ?_))
 refine Tops_step rfl (OpT_assign rfl rfl rfl rfl) ?_
 refine Tops_step rfl (OpT_assign rfl rfl rfl rfl) ?_
 refine Tops_step rfl (OpT_assign rfl rfl rfl rfl) ?_
 refine Tops_nil (tZ [0] [0] [0] rfl rfl rfl rfl ?_)
 refine Tk_seq (Tk_seq (Tk_region (Tops_step rfl (OpT_loadC rfl rfl rfl rfl tyF26 (i := 0) rfl rfl) ?_)))
 refine Tops_step rfl (OpT_lenS rfl rfl rfl rfl Try.underlying26 (i := 0) rfl) ?_
 refine Tops_step rfl (OpT_bin rfl rfl rfl rfl rfl (bin_lss_i (a := len arg0) (b := (16 : Int)))) ?_
 refine Tops_nil (tZ [0, 7] [0] [0] rfl rfl rfl rfl ?_)
 rcases Bool.eq_false_or_eq_true (decide ((len arg0) < (16 : Int))) with hg1 | hg1
 ·replace h := br_t hg1 h
  refine Tk_condT (congrArg (fun b => some (Value.bool b)) hg1) ?_
  refine Tk_seq (Tk_region (Tops_step rfl (OpT_assign rfl rfl rfl rfl) ?_))
  refine Tops_step rfl (OpT_assign rfl rfl rfl rfl) ?_
  refine Tops_step rfl (OpT_assign rfl rfl rfl rfl) ?_
  refine Tops_step rfl (OpT_assign rfl rfl rfl rfl) ?_
  refine Tops_nil (tZ [1, 2, 3, 4] [0] [0] rfl rfl rfl rfl ?_)
  obtain rfl := Option.some.inj h
  exact Tk_retV rfl rfl (resA (vs := [vU64 (0 : UInt64), vU64 (0 : UInt64), vU64 (0 : UInt64), vB false]) rfl ⟨rfl, rfl, rfl, rfl, trivial⟩) [0] [0] rfl rfl rfl ⟨varg01, rfl, rfl, rfl⟩
 ·replace h := br_f hg1 h
  refine Tk_condF (congrArg (fun b => some (Value.bool b)) hg1) ?_
  refine Tk_skip (Tk_seq (Tk_drawT (by kernel_rfl) ?_))
  refine TA_tb [0, 1, 3, 0, 8, 31, 0, 64, 255, 511, 1023, 2047] (by kernel_rfl) fun htb => ?_
  refine aZ [0] [0] [0] rfl rfl rfl rfl ?_
  obtain ⟨hc1, h⟩ := chk_e h
  obtain ⟨number1, hx1, h⟩ := ob_e h
  obtain ⟨hc2, h⟩ := chk_e h
  obtain ⟨number2, hx2, h⟩ := ob_e h
  obtain ⟨hc3, h⟩ := chk_e h
  refine TA_seg (lo := 0) (hi := 8) htb rfl rfl (by kernel_rfl) (fun c L a w => ∃ (v1 : Value), ∃ (v2 : Value), ∃ (v3 : Value), Sat c ⟨[(0, some (.pointer (some ⟨b_arg0, 0, none⟩))), (8, bif L 0 then some (varg01) else none), (9, bif L 1 then some (v1) else none), (10, bif L 2 then some (vU64 number1) else none), (11, bif L 3 then some (varg01) else none), (12, bif L 4 then some (v2) else none), (13, bif L 5 then some (vU64 number2) else none), (14, bif L 6 then some (varg01) else none), (15, bif L 7 then some (v3) else none)], [(some (cellsR b_arg0 26 [varg01]) : Option Res)], [Fact.sl u8S varg01 arg0, (bif L 1 then Fact.sl u8S v1 (sub arg0 (0 : Int) (8 : Int)) else Fact.tt), (bif L 4 then Fact.sl u8S v2 (sub arg0 (8 : Int) (12 : Int)) else Fact.tt), (bif L 7 then Fact.sl u8S v3 (sub arg0 (12 : Int) (16 : Int)) else Fact.tt)]⟩ a w) [([], [1, 2, 5]), ([0], [2, 5]), ([0, 1], [5]), ([], [4, 5]), ([3], [5]), ([0, 1, 2, 3, 4], []), ([], [7]), ([6], [])] rfl (by kernel_rfl) ?_ (steps_cons ?_ (steps_cons ?_ (steps_cons ?_ (steps_cons ?_ (steps_cons ?_ (steps_cons ?_ (steps_cons ?_ (steps_cons ?_ (steps_nil))))))))) ?_
  ·intro a w hs
   exact ⟨undef, undef, undef, hs.startF [8, 9, 10, 11, 12, 13, 14, 15] [0] [0, 1, 2, 3] rfl rfl rfl rfl⟩
  ·intro L a w hv K Q hK
   obtain ⟨v1, v2, v3, hs⟩ := hv
   refine wpOp_go rfl rfl hs (OpT_loadC rfl rfl rfl rfl tyF26 (i := 0) rfl rfl) ?_
   rintro _ rfl a' w' hs'
   exact hK a' w' ⟨v1, v2, v3, hs'.putF (i := 1) rfl [0] [0, 1, 2, 3] rfl rfl rfl rfl⟩
  ·intro L a w hv K Q hK
   obtain ⟨v1, v2, v3, hs⟩ := hv
   refine wpOp_go rfl rfl hs (OpT_sliceH (m := (8 : Int)) rfl rfl rfl rfl rfl slF26 (i := 0) rfl hc1) ?_
   rintro _ ⟨v1', rfl⟩ a' w' hs'
   exact hK a' w' ⟨v1', v2, v3, hs'.putF (i := 2) rfl [0] [0, 4, 2, 3] rfl rfl rfl rfl⟩
  ·intro L a w hv K Q hK
   obtain ⟨v1, v2, v3, hs⟩ := hv
   refine wpOp_go rfl rfl hs (OpT_call (w_blk_number hx1) [] [1] rfl rfl rfl rfl rfl callee25 rfl rfl rfl rfl) ?_
   rintro _ ⟨_, _, _, ⟨rfl, rfl, rfl⟩, rfl⟩ a' w' hs'
   exact hK a' w' ⟨v1, v2, v3, hs'.putF (i := 3) rfl [0] [0, 1, 2, 3] rfl rfl rfl rfl⟩
  ·intro L a w hv K Q hK
   obtain ⟨v1, v2, v3, hs⟩ := hv
   refine wpOp_go rfl rfl hs (OpT_loadC rfl rfl rfl rfl tyF26 (i := 0) rfl rfl) ?_
   rintro _ rfl a' w' hs'
   exact hK a' w' ⟨v1, v2, v3, hs'.putF (i := 4) rfl [0] [0, 1, 2, 3] rfl rfl rfl rfl⟩
  ·intro L a w hv K Q hK
   obtain ⟨v1, v2, v3, hs⟩ := hv
   refine wpOp_go rfl rfl hs (OpT_sliceLH (l := (8 : Int)) (m := (12 : Int)) rfl rfl rfl rfl rfl rfl slF26 (i := 0) rfl hc2) ?_
   rintro _ ⟨v2', rfl⟩ a' w' hs'
   exact hK a' w' ⟨v1, v2', v3, hs'.putF (i := 5) rfl [0] [0, 1, 4, 3] rfl rfl rfl rfl⟩
  ·intro L a w hv K Q hK
   obtain ⟨v1, v2, v3, hs⟩ := hv
   refine wpOp_go rfl rfl hs (OpT_call (w_blk_number hx2) [] [2] rfl rfl rfl rfl rfl callee25 rfl rfl rfl rfl) ?_
   rintro _ ⟨_, _, _, ⟨rfl, rfl, rfl⟩, rfl⟩ a' w' hs'
   exact hK a' w' ⟨v1, v2, v3, hs'.putF (i := 6) rfl [0] [0, 1, 2, 3] rfl rfl rfl rfl⟩
  ·intro L a w hv K Q hK
   obtain ⟨v1, v2, v3, hs⟩ := hv
   refine wpOp_go rfl rfl hs (OpT_loadC rfl rfl rfl rfl tyF26 (i := 0) rfl rfl) ?_
   rintro _ rfl a' w' hs'
   exact hK a' w' ⟨v1, v2, v3, hs'.putF (i := 7) rfl [0] [0, 1, 2, 3] rfl rfl rfl rfl⟩
  ·intro L a w hv K Q hK
   obtain ⟨v1, v2, v3, hs⟩ := hv
   refine wpOp_go rfl rfl hs (OpT_sliceLH (l := (12 : Int)) (m := (16 : Int)) rfl rfl rfl rfl rfl rfl slF26 (i := 0) rfl hc3) ?_
   rintro _ ⟨v3', rfl⟩ a' w' hs'
   exact hK a' w' ⟨v1, v2, v3', hs'.putF (i := 8) rfl [0] [0, 1, 2, 4] rfl rfl rfl rfl⟩
  ·intro L a w hL hv
   rw [allTrue hL] at hv
   obtain ⟨v1, v2, v3, hs⟩ := hv
   refine gZ hs [0, 10, 13, 15] [0] [0, 3] rfl rfl rfl rfl ?_
   clear hs hL
   obtain ⟨number3, hx3, h⟩ := ob_e h
   refine TA_exP htb (by kernel_rfl) rfl rfl (OpT_call (w_blk_number hx3) [] [1] rfl rfl rfl rfl rfl callee25 rfl rfl rfl rfl) ?_
   rintro _ ⟨_, _, _, ⟨rfl, rfl, rfl⟩, rfl⟩
   refine TA_step htb (by kernel_rfl) rfl rfl (OpT_assign rfl rfl rfl rfl) ?_
   refine TA_step htb (by kernel_rfl) rfl rfl (OpT_assign rfl rfl rfl rfl) ?_
   refine TA_step htb (by kernel_rfl) rfl rfl (OpT_assign rfl rfl rfl rfl) ?_
   refine TA_end rfl ?_
   refine tZ [0, 1, 2, 3] [0] [0] rfl rfl rfl rfl ?_
   refine Tk_seq (Tk_region (Tops_step rfl (OpT_loadC rfl rfl rfl rfl tyF26 (i := 0) rfl rfl) ?_))
   obtain ⟨hc4, h⟩ := chk_e h
   refine Tops_ex rfl (OpT_sliceL (l := (16 : Int)) rfl rfl rfl rfl rfl slF26 (i := 0) rfl hc4) fun v4 => ?_
   refine Tops_step rfl (OpT_storeV (cs' := [v4]) rfl rfl rfl rfl tyF26 (i := 0) rfl (is_sl (i := 1) rfl) rfl rfl) ?_
   refine Tops_nil (tZ [1, 2, 3] [0] [1] rfl rfl rfl rfl ?_)
   refine Tk_seq (Tk_region (Tops_step rfl (OpT_move rfl rfl rfl rfl) ?_))
   refine Tops_step rfl (OpT_move rfl rfl rfl rfl) ?_
   refine Tops_step rfl (OpT_move rfl rfl rfl rfl) ?_
   refine Tops_step rfl (OpT_assign rfl rfl rfl rfl) ?_
   refine Tops_step rfl (OpT_assign rfl rfl rfl rfl) ?_
   refine Tops_step rfl (OpT_assign rfl rfl rfl rfl) ?_
   refine Tops_step rfl (OpT_assign rfl rfl rfl rfl) ?_
   refine Tops_nil (tZ [1, 2, 3, 4] [0] [0] rfl rfl rfl rfl ?_)
   obtain rfl := Option.some.inj h
   exact Tk_retV rfl rfl (resA (vs := [vU64 number1, vU64 number2, vU64 number3, vB true]) rfl ⟨rfl, rfl, rfl, rfl, trivial⟩) [0] [0] rfl rfl rfl ⟨v4, rfl, rfl, rfl⟩

set_option maxRecDepth 100000 in
set_option maxHeartbeats 4000000 in
theorem w_sectors_Store_Zero {sp0 : sectors_Store} {atp1 : UInt64} {np2 : UInt64} {b_sp0 : Nat} {vsp01 : Value} {mb_sp0 : Nat} {r : (Int × sectors_Store)} (h : sectors_Store_Zero sp0 atp1 np2 = some r) :
  Ctr Try.prog 58 #[.pointer (some ⟨b_sp0, 0, none⟩), vU64 atp1, vU64 np2] [(cellsR b_sp0 71 [vsp01, .map (some mb_sp0)]), (rowS secS vsp01 sp0.l), (mapR mb_sp0 .i64 (fun x : Int => x) vSec sp0.fresh)] []
   (fun rv own shr => ∃ (w1 : Value), rv = vI r.1 ∧ own = [(cellsR b_sp0 71 [w1, .map (some mb_sp0)]), (rowS secS w1 r.2.l), (mapR mb_sp0 .i64 (fun x : Int => x) vSec r.2.fresh)] ∧ shr = []) := by
 unfold sectors_Store_Zero at h
 refine Ctr.mk (args := [.pointer (some ⟨b_sp0, 0, none⟩), vU64 atp1, vU64 np2]) Try.func58 rfl rfl (fun R0 w0 B => ?_)
 refine Tk_seq (Tk_region (Tops_step rfl (OpT_assign rfl rfl rfl rfl) ?_))
 refine Tops_nil (tZ [0, 1, 2] [0, 1, 2] [] rfl rfl rfl rfl ?_)
 refine Tk_seq (Tk_block (Tk_seq (Tk_region (Tops_step rfl (OpT_move rfl rfl rfl rfl) ?_))))
 refine Tops_step rfl (OpT_ptrNil rfl rfl rfl (.inl rfl) rfl rfl ptrF22) ?_
 refine Tops_step rfl (OpT_assign rfl rfl rfl rfl) ?_
 refine Tops_nil (tZ [0, 1, 2, 8] [0, 1, 2] [] rfl rfl rfl rfl ?_)
 refine Tk_condF rfl ?_
 refine Tk_seq (Tk_region (Tops_step rfl (OpT_move rfl rfl rfl rfl) ?_))
 refine Tops_step rfl (OpT_move rfl rfl rfl rfl) ?_
 refine Tops_step rfl (OpT_move rfl rfl rfl rfl) ?_
 obtain ⟨has1, hx1, h⟩ := ob_e h
 refine Tops_exP rfl (OpT_callP [3, 4, 5] (w_sectors_Store_Has hx1) [0, 1, 2] [] rfl rfl rfl rfl rfl callee46 rfl rfl rfl rfl rfl) ?_
 rintro _ ⟨_, _, _, ⟨rfl, rfl, rfl⟩, rfl⟩
 refine Tops_step rfl (OpT_not rfl rfl rfl rfl) ?_
 refine Tops_step rfl (OpT_assign rfl rfl rfl rfl) ?_
 refine Tops_nil (tZ [0, 1, 2, 11] [0, 1, 2] [] rfl rfl rfl rfl ?_)
 rcases Bool.eq_false_or_eq_true ((!has1)) with hg1 | hg1
 ·replace h := br_t hg1 h
  refine Tk_condT (congrArg (fun b => some (Value.bool b)) hg1) ?_
  refine Tk_seq (Tk_region (Tops_step rfl (OpT_assign rfl rfl rfl rfl) ?_))
  refine Tops_nil (tZ [6] [0, 1, 2] [] rfl rfl rfl rfl ?_)
  obtain rfl := Option.some.inj h
  exact Tk_retV rfl rfl (resA (vs := [vI (5 : Int)]) rfl ⟨rfl, trivial⟩) [0, 1, 2] [] rfl rfl rfl ⟨vsp01, rfl, rfl, rfl⟩
 ·replace h := br_f hg1 h
  refine Tk_condF (congrArg (fun b => some (Value.bool b)) hg1) ?_
  refine Tk_skip (Tk_blk (Tk_seq (Tk_seq (Tk_region (Tops_step rfl (OpT_move rfl rfl rfl rfl) ?_)))))
  refine Tops_step rfl (OpT_cnv rfl rfl rfl rfl (cnv_u64_i (n := np2) Try.underlying30 Try.underlying3)) ?_
  refine Tops_step rfl (OpT_move rfl rfl rfl rfl) ?_
  refine Tops_nil (tZ [0, 1, 18, 19] [0, 1, 2] [] rfl rfl rfl rfl ?_)
  refine Tk_block (Tk_loopS (σ := (List Sec) × (List (Int × Sec)) × Int × Value) [0, 1, 18, 19] [0, 1, 2] [] (fun s => ⟨[(0, some (.pointer (some ⟨b_sp0, 0, none⟩))), (1, some (vU64 atp1)), (18, some (vI (i64 np2))), (19, some (vI s.2.2.1))], [some (cellsR b_sp0 71 [s.2.2.2, .map (some mb_sp0)]), some (rowS secS s.2.2.2 s.1), some (mapR mb_sp0 .i64 (fun x : Int => x) vSec s.2.1)], []⟩) (fun nf1 s => sectors_Store_ZeroL1 atp1 np2 nf1 s.1 s.2.1 s.2.2.1 = some r) fuel (sp0.l, sp0.fresh, (0 : Int), vsp01) h rfl rfl rfl rfl rfl (fun s h => by cases h) ?_)
  rintro nf1 ⟨l1, map1, x1, v1⟩ h
  replace h : sectors_Store_ZeroL1B atp1 np2 (sectors_Store_ZeroL1 atp1 np2 nf1) l1 map1 x1 = some r := h
  unfold sectors_Store_ZeroL1B at h
  refine Tk_seq (Tk_region (Tops_step rfl (OpT_bin rfl rfl rfl rfl rfl (bin_lss_i (a := x1) (b := i64 np2))) ?_))
  refine Tops_nil (Tk_seq ?_)
  rcases Bool.eq_false_or_eq_true (decide (x1 < (i64 np2))) with hg2 | hg2
  ·replace h := br_t hg2 h
   refine Tk_condT (congrArg (fun b => some (Value.bool b)) hg2) ?_
   refine Tk_skip (Tk_seq (Tk_block (Tk_seq (Tk_region (Tops_step rfl (OpT_move rfl rfl rfl rfl) ?_)))))
   refine Tops_step rfl (OpT_assign rfl rfl rfl rfl) ?_
   refine Tops_nil (tZ [0, 1, 18, 19, 7] [0, 1, 2] [] rfl rfl rfl rfl ?_)
   refine Tk_region (Tops_step rfl (OpT_move rfl rfl rfl rfl) ?_)
   refine Tops_step rfl (OpT_move rfl rfl rfl rfl) ?_
   refine Tops_step rfl (OpT_cnv rfl rfl rfl rfl (cnv_u64_i (n := atp1) Try.underlying30 Try.underlying3)) ?_
   refine Tops_step rfl (OpT_move rfl rfl rfl rfl) ?_
   refine Tops_step rfl (OpT_bin rfl rfl rfl rfl rfl (bin_add_i (a := i64 atp1) (b := x1))) ?_
   refine Tops_step rfl (OpT_build (v := .agg (Sec.z.l.map vU8).toArray) rfl rfl rfl rfl (bldV (by kernel_rfl))) ?_
   obtain ⟨put1, hx2, h⟩ := ob_e h
   refine Tops_exP rfl (OpT_callP [3, 4, 5] (w_sectors_Store_put hx2) [0, 1, 2] [] rfl rfl rfl rfl rfl callee62 rfl rfl rfl rfl rfl) ?_
   rintro _ ⟨_, _, _, ⟨v2, rfl, rfl, rfl⟩, rfl⟩
   refine Tops_nil (tZ [0, 1, 18, 19] [0, 1, 2] [] rfl rfl rfl rfl ?_)
   refine Tk_blk (Tk_region (Tops_step rfl (OpT_bin rfl rfl rfl rfl rfl (bin_add_i (a := x1) (b := (1 : Int)))) ?_))
   refine Tops_step rfl (OpT_move rfl rfl rfl rfl) ?_
   refine Tops_nil (tZ [0, 1, 18, 19] [0, 1, 2] [] rfl rfl rfl rfl ?_)
   exact Tk_backS (put1.l, put1.fresh, wi (x1 + (1 : Int)), v2) h [0, 1, 18, 19] [0, 1, 2] [] rfl rfl rfl rfl rfl
  ·replace h := br_f hg2 h
   refine Tk_condF (congrArg (fun b => some (Value.bool b)) hg2) ?_
   refine Tk_exit _ rfl ?_
   refine Tk_seq (Tk_region (Tops_step rfl (OpT_assign rfl rfl rfl rfl) ?_))
   refine Tops_nil (tZ [6] [0, 1, 2] [] rfl rfl rfl rfl ?_)
   obtain rfl := Option.some.inj h
   exact Tk_retV rfl rfl (resA (vs := [vI (0 : Int)]) rfl ⟨rfl, trivial⟩) [0, 1, 2] [] rfl rfl rfl ⟨v1, rfl, rfl, rfl⟩

set_option maxRecDepth 100000 in
set_option maxHeartbeats 4000000 in
theorem w_blk_work_ranges {wp0 : blk_work} {wp0_s : sectors_Store} {bit : Int} {flags : UInt64} {b_wp0 : Nat} {b_wp0_s : Nat} {vwp0s1 : Value} {mb_wp0_s : Nat} {vwp01 : Value} {r : ((List UInt8) × UInt8 × sectors_Store)} (h : blk_work_ranges wp0 wp0_s bit flags = some r) :
  Ctr Try.prog 43 #[.pointer (some ⟨b_wp0, 0, none⟩), vI bit, vU64 flags] [(cellsR b_wp0 80 [.pointer (some ⟨b_wp0_s, 0, none⟩), vU64 wp0.feats, vS wp0.name, vwp01, vU64 wp0.at_, vU64 wp0.room]), (cellsR b_wp0_s 71 [vwp0s1, .map (some mb_wp0_s)]), (rowS secS vwp0s1 wp0_s.l), (mapR mb_wp0_s .i64 (fun x : Int => x) vSec wp0_s.fresh)] [Fact.sl u8S vwp01 wp0.data]
   (fun rv own shr => ∃ (w1 : Value), ∃ (w2 : Value), rv = .tuple #[w1, vU8 r.2.1] ∧ own = [(cellsR b_wp0 80 [.pointer (some ⟨b_wp0_s, 0, none⟩), vU64 wp0.feats, vS wp0.name, vwp01, vU64 wp0.at_, vU64 wp0.room]), (cellsR b_wp0_s 71 [w2, .map (some mb_wp0_s)]), (rowS secS w2 r.2.2.l), (mapR mb_wp0_s .i64 (fun x : Int => x) vSec r.2.2.fresh), (rowS u8S w1 r.1)] ∧ shr = []) := by
 unfold blk_work_ranges at h
 refine Ctr.mk (args := [.pointer (some ⟨b_wp0, 0, none⟩), vI bit, vU64 flags]) Try.func43 rfl rfl (fun R0 w0 B => ?_)
 refine Tk_seq (Tk_region (Tops_step rfl (OpT_assign rfl rfl rfl rfl) ?_))
 refine Tops_step rfl (OpT_assign rfl rfl rfl rfl) ?_
 refine Tops_nil (tZ [0, 1, 2] [0, 1, 2, 3] [0] rfl rfl rfl rfl ?_)
 refine Tk_seq (Tk_seq (Tk_region (Tops_step rfl (OpT_move rfl rfl rfl rfl) ?_)))
 refine Tops_step rfl (OpT_nilCheckP rfl rfl rfl rfl) ?_
 refine Tops_step rfl (OpT_fieldC rfl rfl rfl rfl fldF80x3) ?_
 refine Tops_step rfl (OpT_loadC rfl rfl rfl rfl tyF26 (i := 0) rfl rfl) ?_
 refine Tops_step rfl (OpT_lenS rfl rfl rfl rfl Try.underlying26 (i := 0) rfl) ?_
 refine Tops_step rfl (OpT_assign rfl rfl rfl rfl) ?_
 refine Tops_nil (tZ [0, 1, 2, 8] [0, 1, 2, 3] [0] rfl rfl rfl rfl ?_)
 refine Tk_block (Tk_seq (Tk_region (Tops_step rfl (OpT_move rfl rfl rfl rfl) ?_)))
 refine Tops_step rfl (OpT_nilCheckP rfl rfl rfl rfl) ?_
 refine Tops_step rfl (OpT_fieldC rfl rfl rfl rfl fldF80x1) ?_
 refine Tops_step rfl (OpT_loadC rfl rfl rfl rfl tyF30 (i := 0) rfl rfl) ?_
 refine Tops_step rfl (OpT_move rfl rfl rfl rfl) ?_
 obtain ⟨has1, hx1, h⟩ := ob_e h
 refine Tops_exP rfl (OpT_call (w_feat_Has hx1) [] [] rfl rfl rfl rfl rfl callee54 rfl rfl rfl rfl) ?_
 rintro _ ⟨_, _, _, ⟨rfl, rfl, rfl⟩, rfl⟩
 refine Tops_step rfl (OpT_not rfl rfl rfl rfl) ?_
 refine Tops_step rfl (OpT_assign rfl rfl rfl rfl) ?_
 refine Tops_nil (tZ [0, 2, 8, 25] [0, 1, 2, 3] [0] rfl rfl rfl rfl ?_)
 rcases Bool.eq_false_or_eq_true ((!has1)) with hg1 | hg1
 ·replace h := br_t hg1 h
  refine Tk_condT (congrArg (fun b => some (Value.bool b)) hg1) ?_
  refine Tk_seq (Tk_region (Tops_step rfl (OpT_assign rfl rfl rfl rfl) ?_))
  refine Tops_step rfl (OpT_assign rfl rfl rfl rfl) ?_
  refine Tops_nil (tZ [6, 7] [0, 1, 2, 3] [0] rfl rfl rfl rfl ?_)
  refine Tk_nilrow u8S ?_
  obtain rfl := Option.some.inj h
  exact Tk_retV rfl rfl (resA (vs := [.slice none 0 0, vU8 (2 : UInt8)]) rfl ⟨rfl, rfl, trivial⟩) [0, 1, 2, 3, 4] [] rfl rfl rfl ⟨(.slice none 0 0), vwp0s1, rfl, rfl, rfl⟩
 ·replace h := br_f hg1 h
  refine Tk_condF (congrArg (fun b => some (Value.bool b)) hg1) ?_
  refine Tk_seq (Tk_seq (Tk_region (Tops_step rfl (OpT_move rfl rfl rfl rfl) ?_)))
  refine Tops_step rfl (OpT_nilCheckP rfl rfl rfl rfl) ?_
  refine Tops_step rfl (OpT_fieldC rfl rfl rfl rfl fldF80x1) ?_
  refine Tops_step rfl (OpT_loadC rfl rfl rfl rfl tyF30 (i := 0) rfl rfl) ?_
  obtain ⟨has2, hx2, h⟩ := ob_e h
  refine Tops_exP rfl (OpT_call (w_feat_Has hx2) [] [] rfl rfl rfl rfl rfl callee54 rfl rfl rfl rfl) ?_
  rintro _ ⟨_, _, _, ⟨rfl, rfl, rfl⟩, rfl⟩
  refine Tops_step rfl (OpT_assign rfl rfl rfl rfl) ?_
  refine Tops_nil (tZ [0, 2, 8, 33] [0, 1, 2, 3] [0] rfl rfl rfl rfl ?_)
  refine Tk_join (α := Bool) (fun s => ⟨[(0, some (.pointer (some ⟨b_wp0, 0, none⟩))), (2, some (vU64 flags)), (33, some (vB s))], [some (cellsR b_wp0 80 [.pointer (some ⟨b_wp0_s, 0, none⟩), vU64 wp0.feats, vS wp0.name, vwp01, vU64 wp0.at_, vU64 wp0.room]), some (cellsR b_wp0_s 71 [vwp0s1, .map (some mb_wp0_s)]), some (rowS secS vwp0s1 wp0_s.l), some (mapR mb_wp0_s .i64 (fun x : Int => x) vSec wp0_s.fresh)], [Fact.sl u8S vwp01 wp0.data]⟩) (fun s => blk_work_rangesJ1 wp0 wp0_s flags s = some r) ?_ ?_
  ·rintro x1 h
   replace h : blk_work_rangesJ1 wp0 wp0_s flags x1 = some r := h
   unfold blk_work_rangesJ1 at h
   rcases Bool.eq_false_or_eq_true (x1) with hg2 | hg2
   ·replace h := br_t hg2 h
    refine Tk_condT (congrArg (fun b => some (Value.bool b)) hg2) ?_
    refine Tk_seq (Tk_region (Tops_step rfl (OpT_assign rfl rfl rfl rfl) ?_))
    refine Tops_step rfl (OpT_assign rfl rfl rfl rfl) ?_
    refine Tops_nil (tZ [6, 7] [0, 1, 2, 3] [0] rfl rfl rfl rfl ?_)
    refine Tk_nilrow u8S ?_
    obtain rfl := Option.some.inj h
    exact Tk_retV rfl rfl (resA (vs := [.slice none 0 0, vU8 (1 : UInt8)]) rfl ⟨rfl, rfl, trivial⟩) [0, 1, 2, 3, 4] [] rfl rfl rfl ⟨(.slice none 0 0), vwp0s1, rfl, rfl, rfl⟩
   ·replace h := br_f hg2 h
    refine Tk_condF (congrArg (fun b => some (Value.bool b)) hg2) ?_
    refine Tk_skip (Tk_blk (Tk_seq (Tk_region (Tops_step rfl (OpT_move rfl rfl rfl rfl) ?_))))
    refine Tops_step rfl (OpT_nilCheckP rfl rfl rfl rfl) ?_
    refine Tops_step rfl (OpT_fieldC rfl rfl rfl rfl fldF80x3) ?_
    refine Tops_step rfl (OpT_loadC rfl rfl rfl rfl tyF26 (i := 0) rfl rfl) ?_
    refine Tops_ex rfl (OpT_alloc rfl rfl rfl tyZ26) fun b1 => ?_
    refine Tops_step rfl (OpT_storeV (cs' := [vwp01]) rfl rfl rfl rfl tyF26 (i := 4) rfl (is_sl (i := 0) rfl) rfl rfl) ?_
    refine Tops_nil (tZ [0, 2, 9] [0, 1, 2, 3, 4] [0] rfl rfl rfl rfl ?_)
    refine Tk_seq (Tk_region (Tops_step rfl (OpT_makeFunc (vs := [.pointer (some ⟨b1, 0, none⟩)]) rfl rfl rfl rfl) ?_))
    refine Tops_step rfl (OpT_assign rfl rfl rfl rfl) ?_
    refine Tops_nil (tZ [0, 2, 9, 10] [0, 1, 2, 3, 4] [0] rfl rfl rfl rfl ?_)
    refine Tk_seq (Tk_region (Tops_step rfl (OpT_assign rfl rfl rfl rfl) ?_))
    refine Tops_nil (Tk_seq (Tk_seq (Tk_region (Tops_step rfl (OpT_move rfl rfl rfl rfl) ?_))))
    obtain ⟨ranges1, hx3, h⟩ := ob_e h
    refine Tops_exP rfl (OpT_callP [0, 1, 2, 3, 5] (w_blk_work_ranges_1 hx3) [4] [0] rfl rfl rfl rfl rfl callee57 rfl rfl rfl rfl rfl) ?_
    rintro _ ⟨_, _, _, ⟨v1, rfl, rfl, rfl⟩, rfl⟩
    refine Tops_step rfl (OpT_move rfl rfl rfl rfl) ?_
    refine Tops_step rfl (OpT_extract rfl rfl rfl rfl rfl) ?_
    refine Tops_step rfl (OpT_extract rfl rfl rfl rfl rfl) ?_
    refine Tops_step rfl (OpT_extract rfl rfl rfl rfl rfl) ?_
    refine Tops_step rfl (OpT_extract rfl rfl rfl rfl rfl) ?_
    refine Tops_step rfl (OpT_assign rfl rfl rfl rfl) ?_
    refine Tops_step rfl (OpT_assign rfl rfl rfl rfl) ?_
    refine Tops_step rfl (OpT_assign rfl rfl rfl rfl) ?_
    refine Tops_step rfl (OpT_assign rfl rfl rfl rfl) ?_
    refine Tops_nil (tZ [0, 2, 9, 10, 11, 12, 13, 14, 15] [0, 1, 2, 3, 4] [0, 1] rfl rfl rfl rfl ?_)
    refine Tk_block (Tk_loopS (σ := (List Sec) × (List (Int × Sec)) × (List UInt8) × Bool × UInt64 × UInt64 × UInt64 × Bool × Value × Value) [0, 2, 9, 10, 11, 12, 13, 14, 15] [0, 1, 2, 3, 4] [0, 1] (fun s => ⟨[(0, some (.pointer (some ⟨b_wp0, 0, none⟩))), (2, some (vU64 flags)), (9, some (.pointer (some ⟨b1, 0, none⟩))), (10, some (.func (.func 57) #[] #[.pointer (some ⟨b1, 0, none⟩)])), (11, some (vB s.2.2.2.1)), (12, some (vU64 s.2.2.2.2.1)), (13, some (vU64 s.2.2.2.2.2.1)), (14, some (vU64 s.2.2.2.2.2.2.1)), (15, some (vB s.2.2.2.2.2.2.2.1))], [some (cellsR b_wp0 80 [.pointer (some ⟨b_wp0_s, 0, none⟩), vU64 wp0.feats, vS wp0.name, vwp01, vU64 wp0.at_, vU64 wp0.room]), some (cellsR b_wp0_s 71 [s.2.2.2.2.2.2.2.2.1, .map (some mb_wp0_s)]), some (rowS secS s.2.2.2.2.2.2.2.2.1 s.1), some (mapR mb_wp0_s .i64 (fun x : Int => x) vSec s.2.1), some (cellsR b1 26 [s.2.2.2.2.2.2.2.2.2])], [Fact.sl u8S vwp01 wp0.data, Fact.sl u8S s.2.2.2.2.2.2.2.2.2 s.2.2.1]⟩) (fun nf2 s => blk_work_rangesL2 wp0 flags nf2 s.1 s.2.1 s.2.2.1 s.2.2.2.1 s.2.2.2.2.1 s.2.2.2.2.2.1 s.2.2.2.2.2.2.1 s.2.2.2.2.2.2.2.1 = some r) fuel (wp0_s.l, wp0_s.fresh, ranges1.2.2.2.2, false, ranges1.1, ranges1.2.1, ranges1.2.2.1, ranges1.2.2.2.1, vwp0s1, v1) h rfl rfl rfl rfl rfl (fun s h => by cases h) ?_)
    rintro nf2 ⟨l1, map1, m1, odd1, at1, n1, f1, ok1, v2, v3⟩ h
    replace h : blk_work_rangesL2B wp0 flags (blk_work_rangesL2 wp0 flags nf2) l1 map1 m1 odd1 at1 n1 f1 ok1 = some r := h
    unfold blk_work_rangesL2B at h
    refine Tk_seq (Tk_seq (Tk_region (Tops_step rfl (OpT_move rfl rfl rfl rfl) ?_)))
    refine Tops_nil (tZ [0, 2, 9, 10, 11, 12, 13, 14, 58] [0, 1, 2, 3, 4] [0, 1] rfl rfl rfl rfl ?_)
    rcases Bool.eq_false_or_eq_true (ok1) with hg3 | hg3
    ·replace h := br_t hg3 h
     refine Tk_condT (congrArg (fun b => some (Value.bool b)) hg3) ?_
     refine Tk_skip (Tk_seq (Tk_block (Tk_seq (Tk_seq (Tk_region (Tops_step rfl (OpT_move rfl rfl rfl rfl) ?_))))))
     refine Tops_step rfl (OpT_nilCheckP rfl rfl rfl rfl) ?_
     refine Tops_step rfl (OpT_fieldC rfl rfl rfl rfl fldF80x0) ?_
     refine Tops_step rfl (OpT_loadC rfl rfl rfl rfl tyF22 (i := 0) rfl rfl) ?_
     refine Tops_step rfl (OpT_move rfl rfl rfl rfl) ?_
     refine Tops_step rfl (OpT_move rfl rfl rfl rfl) ?_
     obtain ⟨has3, hx4, h⟩ := ob_e h
     refine Tops_exP rfl (OpT_callP [0, 5, 6, 7, 4] (w_sectors_Store_Has hx4) [1, 2, 3] [] rfl rfl rfl rfl rfl callee46 rfl rfl rfl rfl rfl) ?_
     rintro _ ⟨_, _, _, ⟨rfl, rfl, rfl⟩, rfl⟩
     refine Tops_step rfl (OpT_not rfl rfl rfl rfl) ?_
     refine Tops_nil (tZ [0, 2, 9, 10, 11, 14, 73] [0, 1, 2, 3, 4] [0, 1] rfl rfl rfl rfl ?_)
     rcases Bool.eq_false_or_eq_true ((!has3)) with hg4 | hg4
     ·replace h := br_t hg4 h
      refine Tk_condT (congrArg (fun b => some (Value.bool b)) hg4) ?_
      refine Tk_seq (Tk_region (Tops_step rfl (OpT_assign rfl rfl rfl rfl) ?_))
      refine Tops_step rfl (OpT_assign rfl rfl rfl rfl) ?_
      refine Tops_nil (tZ [6, 7] [0, 1, 2, 3] [0] rfl rfl rfl rfl ?_)
      refine Tk_nilrow u8S ?_
      obtain rfl := Option.some.inj h
      exact Tk_retV rfl rfl (resA (vs := [.slice none 0 0, vU8 (1 : UInt8)]) rfl ⟨rfl, rfl, trivial⟩) [0, 1, 2, 3, 4] [] rfl rfl rfl ⟨(.slice none 0 0), v2, rfl, rfl, rfl⟩
     ·replace h := br_f hg4 h
      refine Tk_condF (congrArg (fun b => some (Value.bool b)) hg4) ?_
      refine Tk_skip (Tk_region (Tops_step rfl (OpT_move rfl rfl rfl rfl) ?_))
      refine Tops_step rfl (OpT_move rfl rfl rfl rfl) ?_
      rcases Bool.eq_false_or_eq_true (odd1) with hg5 | hg5
      ·replace h := br_t hg5 h
       refine Tops_no rfl rfl (congrArg (fun b => some (Value.bool b)) hg5) rfl rfl ?_
       refine Tops_no rfl rfl (congrArg (fun b => some (Value.bool b)) hg5) rfl rfl ?_
       refine Tops_no rfl rfl (congrArg (fun b => some (Value.bool b)) hg5) rfl rfl ?_
       refine Tops_no rfl rfl (congrArg (fun b => some (Value.bool b)) hg5) rfl rfl ?_
       refine Tops_step rfl (OpT_pickT rfl rfl rfl (congrArg (fun b => some (Value.bool b)) hg5) rfl) ?_
       refine Tops_step rfl (OpT_assign rfl rfl rfl rfl) ?_
       refine Tops_nil (tZ [0, 2, 9, 10, 11] [0, 1, 2, 3, 4] [0, 1] rfl rfl rfl rfl ?_)
       refine Tk_blk (Tk_region (Tops_step rfl (OpT_move rfl rfl rfl rfl) ?_))
       obtain ⟨ranges2, hx5, h⟩ := ob_e h
       refine Tops_exP rfl (OpT_callP [0, 1, 2, 3, 5] (w_blk_work_ranges_1 hx5) [4] [1] rfl rfl rfl rfl rfl callee57 rfl rfl rfl rfl rfl) ?_
       rintro _ ⟨_, _, _, ⟨v4, rfl, rfl, rfl⟩, rfl⟩
       refine Tops_step rfl (OpT_move rfl rfl rfl rfl) ?_
       refine Tops_step rfl (OpT_extract rfl rfl rfl rfl rfl) ?_
       refine Tops_step rfl (OpT_extract rfl rfl rfl rfl rfl) ?_
       refine Tops_step rfl (OpT_extract rfl rfl rfl rfl rfl) ?_
       refine Tops_step rfl (OpT_extract rfl rfl rfl rfl rfl) ?_
       refine Tops_step rfl (OpT_assign rfl rfl rfl rfl) ?_
       refine Tops_step rfl (OpT_assign rfl rfl rfl rfl) ?_
       refine Tops_step rfl (OpT_assign rfl rfl rfl rfl) ?_
       refine Tops_step rfl (OpT_assign rfl rfl rfl rfl) ?_
       refine Tops_nil (tZ [0, 2, 9, 10, 11, 12, 13, 14, 15] [0, 1, 2, 3, 4] [0, 2] rfl rfl rfl rfl ?_)
       exact Tk_backS (l1, map1, ranges2.2.2.2.2, true, ranges2.1, ranges2.2.1, ranges2.2.2.1, ranges2.2.2.2.1, v2, v4) h [0, 2, 9, 10, 11, 12, 13, 14, 15] [0, 1, 2, 3, 4] [0, 1] rfl rfl rfl rfl rfl
      ·replace h := br_f hg5 h
       refine Tops_yes rfl rfl (congrArg (fun b => some (Value.bool b)) hg5) (OpT_move rfl rfl rfl rfl) ?_
       rintro _ rfl
       refine Tops_yes rfl rfl (congrArg (fun b => some (Value.bool b)) hg5) (OpT_move rfl rfl rfl rfl) ?_
       rintro _ rfl
       refine Tops_yes rfl rfl (congrArg (fun b => some (Value.bool b)) hg5) (OpT_bin rfl rfl rfl rfl rfl (bin_andNot_u64 (a := f1) (b := flags))) ?_
       rintro _ rfl
       refine Tops_yes rfl rfl (congrArg (fun b => some (Value.bool b)) hg5) (OpT_bin rfl rfl rfl rfl rfl (bin_neq_u64 (a := f1 &&& ~~~flags) (b := (0 : UInt64)))) ?_
       rintro _ rfl
       refine Tops_step rfl (OpT_pickF rfl rfl rfl (congrArg (fun b => some (Value.bool b)) hg5) rfl) ?_
       refine Tops_step rfl (OpT_assign rfl rfl rfl rfl) ?_
       refine Tops_nil (tZ [0, 2, 9, 10, 11] [0, 1, 2, 3, 4] [0, 1] rfl rfl rfl rfl ?_)
       refine Tk_blk (Tk_region (Tops_step rfl (OpT_move rfl rfl rfl rfl) ?_))
       obtain ⟨ranges3, hx6, h⟩ := ob_e h
       refine Tops_exP rfl (OpT_callP [0, 1, 2, 3, 5] (w_blk_work_ranges_1 hx6) [4] [1] rfl rfl rfl rfl rfl callee57 rfl rfl rfl rfl rfl) ?_
       rintro _ ⟨_, _, _, ⟨v5, rfl, rfl, rfl⟩, rfl⟩
       refine Tops_step rfl (OpT_move rfl rfl rfl rfl) ?_
       refine Tops_step rfl (OpT_extract rfl rfl rfl rfl rfl) ?_
       refine Tops_step rfl (OpT_extract rfl rfl rfl rfl rfl) ?_
       refine Tops_step rfl (OpT_extract rfl rfl rfl rfl rfl) ?_
       refine Tops_step rfl (OpT_extract rfl rfl rfl rfl rfl) ?_
       refine Tops_step rfl (OpT_assign rfl rfl rfl rfl) ?_
       refine Tops_step rfl (OpT_assign rfl rfl rfl rfl) ?_
       refine Tops_step rfl (OpT_assign rfl rfl rfl rfl) ?_
       refine Tops_step rfl (OpT_assign rfl rfl rfl rfl) ?_
       refine Tops_nil (tZ [0, 2, 9, 10, 11, 12, 13, 14, 15] [0, 1, 2, 3, 4] [0, 2] rfl rfl rfl rfl ?_)
       exact Tk_backS (l1, map1, ranges3.2.2.2.2, (f1 &&& ~~~flags) != (0 : UInt64), ranges3.1, ranges3.2.1, ranges3.2.2.1, ranges3.2.2.2.1, v2, v5) h [0, 2, 9, 10, 11, 12, 13, 14, 15] [0, 1, 2, 3, 4] [0, 1] rfl rfl rfl rfl rfl
    ·replace h := br_f hg3 h
     refine Tk_condF (congrArg (fun b => some (Value.bool b)) hg3) ?_
     refine Tk_exit _ rfl ?_
     refine Tk_seq (Tk_seq (Tk_region (Tops_step rfl (OpT_move rfl rfl rfl rfl) ?_)))
     refine Tops_nil (tZ [0, 9, 10, 81] [0, 1, 2, 3, 4] [0, 1] rfl rfl rfl rfl ?_)
     rcases Bool.eq_false_or_eq_true (odd1) with hg6 | hg6
     ·replace h := br_t hg6 h
      refine Tk_condT (congrArg (fun b => some (Value.bool b)) hg6) ?_
      refine Tk_seq (Tk_region (Tops_step rfl (OpT_assign rfl rfl rfl rfl) ?_))
      refine Tops_step rfl (OpT_assign rfl rfl rfl rfl) ?_
      refine Tops_nil (tZ [6, 7] [0, 1, 2, 3] [0] rfl rfl rfl rfl ?_)
      refine Tk_nilrow u8S ?_
      obtain rfl := Option.some.inj h
      exact Tk_retV rfl rfl (resA (vs := [.slice none 0 0, vU8 (2 : UInt8)]) rfl ⟨rfl, rfl, trivial⟩) [0, 1, 2, 3, 4] [] rfl rfl rfl ⟨(.slice none 0 0), v2, rfl, rfl, rfl⟩
     ·replace h := br_f hg6 h
      refine Tk_condF (congrArg (fun b => some (Value.bool b)) hg6) ?_
      refine Tk_skip (Tk_seq (Tk_region (Tops_step rfl (OpT_move rfl rfl rfl rfl) ?_)))
      refine Tops_step rfl (OpT_nilCheckP rfl rfl rfl rfl) ?_
      refine Tops_step rfl (OpT_fieldC rfl rfl rfl rfl fldF80x3) ?_
      refine Tops_step rfl (OpT_loadC rfl rfl rfl rfl tyF26 (i := 0) rfl rfl) ?_
      refine Tops_step rfl (OpT_storeV (cs' := [vwp01]) rfl rfl rfl rfl tyF26 (i := 4) rfl (is_sl (i := 0) rfl) rfl rfl) ?_
      refine Tops_nil (tZ [0, 10] [0, 1, 2, 3, 4] [0] rfl rfl rfl rfl ?_)
      refine Tk_seq (Tk_seq (Tk_region (Tops_step rfl (OpT_move rfl rfl rfl rfl) ?_)))
      obtain ⟨ranges4, hx7, h⟩ := ob_e h
      refine Tops_exP rfl (OpT_callP [0, 1, 2, 3, 5] (w_blk_work_ranges_1 hx7) [4] [0] rfl rfl rfl rfl rfl callee57 rfl rfl rfl rfl rfl) ?_
      rintro _ ⟨_, _, _, ⟨v6, rfl, rfl, rfl⟩, rfl⟩
      refine Tops_step rfl (OpT_move rfl rfl rfl rfl) ?_
      refine Tops_step rfl (OpT_extract rfl rfl rfl rfl rfl) ?_
      refine Tops_step rfl (OpT_extract rfl rfl rfl rfl rfl) ?_
      refine Tops_step rfl (OpT_extract rfl rfl rfl rfl rfl) ?_
      refine Tops_step rfl (OpT_extract rfl rfl rfl rfl rfl) ?_
      refine Tops_step rfl (OpT_assign rfl rfl rfl rfl) ?_
      refine Tops_step rfl (OpT_assign rfl rfl rfl rfl) ?_
      refine Tops_step rfl (OpT_assign rfl rfl rfl rfl) ?_
      refine Tops_step rfl (OpT_assign rfl rfl rfl rfl) ?_
      refine Tops_nil (tZ [0, 10, 16, 17, 19] [0, 1, 2, 3, 4] [0, 1] rfl rfl rfl rfl ?_)
      refine Tk_block (Tk_loopS (σ := (List Sec) × (List (Int × Sec)) × (List UInt8) × UInt64 × UInt64 × Bool × Value × Value) [0, 10, 16, 17, 19] [0, 1, 2, 3, 4] [0, 1] (fun s => ⟨[(0, some (.pointer (some ⟨b_wp0, 0, none⟩))), (10, some (.func (.func 57) #[] #[.pointer (some ⟨b1, 0, none⟩)])), (16, some (vU64 s.2.2.2.1)), (17, some (vU64 s.2.2.2.2.1)), (19, some (vB s.2.2.2.2.2.1))], [some (cellsR b_wp0 80 [.pointer (some ⟨b_wp0_s, 0, none⟩), vU64 wp0.feats, vS wp0.name, vwp01, vU64 wp0.at_, vU64 wp0.room]), some (cellsR b_wp0_s 71 [s.2.2.2.2.2.2.1, .map (some mb_wp0_s)]), some (rowS secS s.2.2.2.2.2.2.1 s.1), some (mapR mb_wp0_s .i64 (fun x : Int => x) vSec s.2.1), some (cellsR b1 26 [s.2.2.2.2.2.2.2])], [Fact.sl u8S vwp01 wp0.data, Fact.sl u8S s.2.2.2.2.2.2.2 s.2.2.1]⟩) (fun nf3 s => blk_work_rangesL3 nf3 s.1 s.2.1 s.2.2.1 s.2.2.2.1 s.2.2.2.2.1 s.2.2.2.2.2.1 = some r) fuel (l1, map1, ranges4.2.2.2.2, ranges4.1, ranges4.2.1, ranges4.2.2.2.1, v2, v6) h rfl rfl rfl rfl rfl (fun s h => by cases h) ?_)
      rintro nf3 ⟨l2, map2, m2, at2, n2, ok2, v7, v8⟩ h
      replace h : blk_work_rangesL3B (blk_work_rangesL3 nf3) l2 map2 m2 at2 n2 ok2 = some r := h
      unfold blk_work_rangesL3B at h
      refine Tk_seq (Tk_seq (Tk_region (Tops_step rfl (OpT_move rfl rfl rfl rfl) ?_)))
      refine Tops_nil (tZ [0, 10, 16, 17, 93] [0, 1, 2, 3, 4] [0, 1] rfl rfl rfl rfl ?_)
      rcases Bool.eq_false_or_eq_true (ok2) with hg7 | hg7
      ·replace h := br_t hg7 h
       refine Tk_condT (congrArg (fun b => some (Value.bool b)) hg7) ?_
       refine Tk_skip (Tk_seq (Tk_block (Tk_region (Tops_step rfl (OpT_move rfl rfl rfl rfl) ?_))))
       refine Tops_step rfl (OpT_nilCheckP rfl rfl rfl rfl) ?_
       refine Tops_step rfl (OpT_fieldC rfl rfl rfl rfl fldF80x0) ?_
       refine Tops_step rfl (OpT_loadC rfl rfl rfl rfl tyF22 (i := 0) rfl rfl) ?_
       refine Tops_step rfl (OpT_move rfl rfl rfl rfl) ?_
       refine Tops_step rfl (OpT_move rfl rfl rfl rfl) ?_
       obtain ⟨zero1, hx8, h⟩ := ob_e h
       refine Tops_exP rfl (OpT_callP [0, 5, 6, 7, 4] (w_sectors_Store_Zero hx8) [1, 2, 3] [] rfl rfl rfl rfl rfl callee58 rfl rfl rfl rfl rfl) ?_
       rintro _ ⟨_, _, _, ⟨v9, rfl, rfl, rfl⟩, rfl⟩
       refine Tops_nil (tZ [0, 10] [0, 1, 2, 3, 4] [0, 1] rfl rfl rfl rfl ?_)
       refine Tk_blk (Tk_region (Tops_step rfl (OpT_move rfl rfl rfl rfl) ?_))
       obtain ⟨ranges5, hx9, h⟩ := ob_e h
       refine Tops_exP rfl (OpT_callP [0, 1, 2, 3, 5] (w_blk_work_ranges_1 hx9) [4] [1] rfl rfl rfl rfl rfl callee57 rfl rfl rfl rfl rfl) ?_
       rintro _ ⟨_, _, _, ⟨v10, rfl, rfl, rfl⟩, rfl⟩
       refine Tops_step rfl (OpT_move rfl rfl rfl rfl) ?_
       refine Tops_step rfl (OpT_extract rfl rfl rfl rfl rfl) ?_
       refine Tops_step rfl (OpT_extract rfl rfl rfl rfl rfl) ?_
       refine Tops_step rfl (OpT_extract rfl rfl rfl rfl rfl) ?_
       refine Tops_step rfl (OpT_extract rfl rfl rfl rfl rfl) ?_
       refine Tops_step rfl (OpT_assign rfl rfl rfl rfl) ?_
       refine Tops_step rfl (OpT_assign rfl rfl rfl rfl) ?_
       refine Tops_step rfl (OpT_assign rfl rfl rfl rfl) ?_
       refine Tops_nil (tZ [0, 10, 16, 17, 19] [0, 1, 2, 3, 4] [0, 2] rfl rfl rfl rfl ?_)
       exact Tk_backS (zero1.2.l, zero1.2.fresh, ranges5.2.2.2.2, ranges5.1, ranges5.2.1, ranges5.2.2.2.1, v9, v10) h [0, 10, 16, 17, 19] [0, 1, 2, 3, 4] [0, 1] rfl rfl rfl rfl rfl
      ·replace h := br_f hg7 h
       refine Tk_condF (congrArg (fun b => some (Value.bool b)) hg7) ?_
       refine Tk_exit _ rfl ?_
       refine Tk_seq (Tk_region (Tops_step rfl (OpT_assign rfl rfl rfl rfl) ?_))
       refine Tops_step rfl (OpT_assign rfl rfl rfl rfl) ?_
       refine Tops_nil (tZ [6, 7] [0, 1, 2, 3] [0] rfl rfl rfl rfl ?_)
       refine Tk_nilrow u8S ?_
       obtain rfl := Option.some.inj h
       exact Tk_retV rfl rfl (resA (vs := [.slice none 0 0, vU8 (0 : UInt8)]) rfl ⟨rfl, rfl, trivial⟩) [0, 1, 2, 3, 4] [] rfl rfl rfl ⟨(.slice none 0 0), v7, rfl, rfl, rfl⟩
  ·intro HJ1
   rcases Bool.eq_false_or_eq_true (has2) with hg8 | hg8
   ·replace h := br_t hg8 h
    refine Tk_condT (congrArg (fun b => some (Value.bool b)) hg8) ?_
    refine Tk_skip ?_
    exact Tk_jmpS (HJ1 has2 h) [0, 2, 33] [0, 1, 2, 3] [0] rfl rfl rfl rfl
   ·replace h := br_f hg8 h
    refine Tk_condF (congrArg (fun b => some (Value.bool b)) hg8) ?_
    refine Tk_seq (Tk_region (Tops_step rfl (OpT_move rfl rfl rfl rfl) ?_))
    refine Tops_step rfl (OpT_bin rfl rfl rfl rfl rfl (bin_eql_i (a := len wp0.data) (b := (0 : Int)))) ?_
    refine Tops_step rfl (OpT_assign rfl rfl rfl rfl) ?_
    refine Tops_nil (tZ [0, 2, 8, 33] [0, 1, 2, 3] [0] rfl rfl rfl rfl ?_)
    rcases Bool.eq_false_or_eq_true ((len wp0.data) == (0 : Int)) with hg9 | hg9
    ·replace h := br_t hg9 h
     refine Tk_condT (congrArg (fun b => some (Value.bool b)) hg9) ?_
     refine Tk_skip ?_
     exact Tk_jmpS (HJ1 ((len wp0.data) == (0 : Int)) h) [0, 2, 33] [0, 1, 2, 3] [0] rfl rfl rfl rfl
    ·replace h := br_f hg9 h
     refine Tk_condF (congrArg (fun b => some (Value.bool b)) hg9) ?_
     refine Tk_seq (Tk_region (Tops_step rfl (OpT_move rfl rfl rfl rfl) ?_))
     refine Tops_step rfl (OpT_bin rfl rfl rfl rfl rfl (bin_rem_i (a := len wp0.data) (b := (16 : Int)) rfl)) ?_
     refine Tops_step rfl (OpT_bin rfl rfl rfl rfl rfl (bin_neq_i (a := remi (len wp0.data) (16 : Int)) (b := (0 : Int)))) ?_
     refine Tops_step rfl (OpT_assign rfl rfl rfl rfl) ?_
     refine Tops_nil (tZ [0, 2, 8, 33] [0, 1, 2, 3] [0] rfl rfl rfl rfl ?_)
     rcases Bool.eq_false_or_eq_true ((remi (len wp0.data) (16 : Int)) != (0 : Int)) with hg10 | hg10
     ·replace h := br_t hg10 h
      refine Tk_condT (congrArg (fun b => some (Value.bool b)) hg10) ?_
      refine Tk_skip ?_
      exact Tk_jmpS (HJ1 ((remi (len wp0.data) (16 : Int)) != (0 : Int)) h) [0, 2, 33] [0, 1, 2, 3] [0] rfl rfl rfl rfl
     ·replace h := br_f hg10 h
      refine Tk_condF (congrArg (fun b => some (Value.bool b)) hg10) ?_
      refine Tk_region (Tops_step rfl (OpT_move rfl rfl rfl rfl) ?_)
      refine Tops_step rfl (OpT_bin rfl rfl rfl rfl rfl (bin_gtr_i (a := len wp0.data) (b := (256 : Int)))) ?_
      refine Tops_step rfl (OpT_assign rfl rfl rfl rfl) ?_
      refine Tops_nil (tZ [0, 2, 33] [0, 1, 2, 3] [0] rfl rfl rfl rfl ?_)
      exact Tk_jmpS (HJ1 (decide ((len wp0.data) > (256 : Int))) h) [0, 2, 33] [0, 1, 2, 3] [0] rfl rfl rfl rfl

set_option maxRecDepth 100000 in
set_option maxHeartbeats 4000000 in
theorem w_blk_kind_does_1 {wp0 : blk_work} {wp0_s : sectors_Store} {b_wp0 : Nat} {b_wp0_s : Nat} {vwp0s1 : Value} {mb_wp0_s : Nat} {vwp01 : Value} {r : ((List UInt8) × UInt8 × sectors_Store)} (h : blk_kind_does_1 wp0 wp0_s = some r) :
  Ctr Try.prog 42 #[.pointer (some ⟨b_wp0, 0, none⟩)] [(cellsR b_wp0 80 [.pointer (some ⟨b_wp0_s, 0, none⟩), vU64 wp0.feats, vS wp0.name, vwp01, vU64 wp0.at_, vU64 wp0.room]), (cellsR b_wp0_s 71 [vwp0s1, .map (some mb_wp0_s)]), (rowS secS vwp0s1 wp0_s.l), (mapR mb_wp0_s .i64 (fun x : Int => x) vSec wp0_s.fresh)] [Fact.sl u8S vwp01 wp0.data]
   (fun rv own shr => ∃ (w1 : Value), ∃ (w2 : Value), rv = .tuple #[w1, vU8 r.2.1] ∧ own = [(cellsR b_wp0 80 [.pointer (some ⟨b_wp0_s, 0, none⟩), vU64 wp0.feats, vS wp0.name, vwp01, vU64 wp0.at_, vU64 wp0.room]), (cellsR b_wp0_s 71 [w2, .map (some mb_wp0_s)]), (rowS secS w2 r.2.2.l), (mapR mb_wp0_s .i64 (fun x : Int => x) vSec r.2.2.fresh), (rowS u8S w1 r.1)] ∧ shr = []) := by
 unfold blk_kind_does_1 at h
 refine Ctr.mk (args := [.pointer (some ⟨b_wp0, 0, none⟩)]) Try.func42 rfl rfl (fun R0 w0 B => ?_)
 refine Tk_seq (Tk_region (Tops_step rfl (OpT_assign rfl rfl rfl rfl) ?_))
 refine Tops_step rfl (OpT_assign rfl rfl rfl rfl) ?_
 refine Tops_nil (tZ [0] [0, 1, 2, 3] [0] rfl rfl rfl rfl ?_)
 refine Tk_seq (Tk_region (Tops_step rfl (OpT_move rfl rfl rfl rfl) ?_))
 obtain ⟨ranges1, hx1, h⟩ := ob_e h
 refine Tops_exP rfl (OpT_callP [4, 5, 6, 7, 8] (w_blk_work_ranges hx1) [0, 1, 2, 3] [0] rfl rfl rfl rfl rfl callee43 rfl rfl rfl rfl rfl) ?_
 rintro _ ⟨_, _, _, ⟨v1, v2, rfl, rfl, rfl⟩, rfl⟩
 refine Tops_step rfl (OpT_extract rfl rfl rfl rfl rfl) ?_
 refine Tops_step rfl (OpT_extract rfl rfl rfl rfl rfl) ?_
 refine Tops_step rfl (OpT_assign rfl rfl rfl rfl) ?_
 refine Tops_step rfl (OpT_assign rfl rfl rfl rfl) ?_
 refine Tops_nil (tZ [2, 3] [0, 1, 2, 3, 4] [0] rfl rfl rfl rfl ?_)
 obtain rfl := Option.some.inj h
 exact Tk_retV rfl rfl (resA (vs := [v1, vU8 ranges1.2.1]) rfl ⟨rfl, rfl, trivial⟩) [0, 1, 2, 3, 4] [] rfl rfl rfl ⟨v1, v2, rfl, rfl, rfl⟩

set_option maxRecDepth 100000 in
set_option maxHeartbeats 4000000 in
theorem w_blk_kind_does_2 {wp0 : blk_work} {wp0_s : sectors_Store} {b_wp0 : Nat} {b_wp0_s : Nat} {vwp0s1 : Value} {mb_wp0_s : Nat} {vwp01 : Value} {r : ((List UInt8) × UInt8 × sectors_Store)} (h : blk_kind_does_2 wp0 wp0_s = some r) :
  Ctr Try.prog 44 #[.pointer (some ⟨b_wp0, 0, none⟩)] [(cellsR b_wp0 80 [.pointer (some ⟨b_wp0_s, 0, none⟩), vU64 wp0.feats, vS wp0.name, vwp01, vU64 wp0.at_, vU64 wp0.room]), (cellsR b_wp0_s 71 [vwp0s1, .map (some mb_wp0_s)]), (rowS secS vwp0s1 wp0_s.l), (mapR mb_wp0_s .i64 (fun x : Int => x) vSec wp0_s.fresh)] [Fact.sl u8S vwp01 wp0.data]
   (fun rv own shr => ∃ (w1 : Value), ∃ (w2 : Value), rv = .tuple #[w1, vU8 r.2.1] ∧ own = [(cellsR b_wp0 80 [.pointer (some ⟨b_wp0_s, 0, none⟩), vU64 wp0.feats, vS wp0.name, vwp01, vU64 wp0.at_, vU64 wp0.room]), (cellsR b_wp0_s 71 [w2, .map (some mb_wp0_s)]), (rowS secS w2 r.2.2.l), (mapR mb_wp0_s .i64 (fun x : Int => x) vSec r.2.2.fresh), (rowS u8S w1 r.1)] ∧ shr = []) := by
 unfold blk_kind_does_2 at h
 refine Ctr.mk (args := [.pointer (some ⟨b_wp0, 0, none⟩)]) Try.func44 rfl rfl (fun R0 w0 B => ?_)
 refine Tk_seq (Tk_region (Tops_step rfl (OpT_assign rfl rfl rfl rfl) ?_))
 refine Tops_step rfl (OpT_assign rfl rfl rfl rfl) ?_
 refine Tops_nil (tZ [0] [0, 1, 2, 3] [0] rfl rfl rfl rfl ?_)
 refine Tk_seq (Tk_region (Tops_step rfl (OpT_move rfl rfl rfl rfl) ?_))
 obtain ⟨ranges1, hx1, h⟩ := ob_e h
 refine Tops_exP rfl (OpT_callP [4, 5, 6, 7, 8] (w_blk_work_ranges hx1) [0, 1, 2, 3] [0] rfl rfl rfl rfl rfl callee43 rfl rfl rfl rfl rfl) ?_
 rintro _ ⟨_, _, _, ⟨v1, v2, rfl, rfl, rfl⟩, rfl⟩
 refine Tops_step rfl (OpT_extract rfl rfl rfl rfl rfl) ?_
 refine Tops_step rfl (OpT_extract rfl rfl rfl rfl rfl) ?_
 refine Tops_step rfl (OpT_assign rfl rfl rfl rfl) ?_
 refine Tops_step rfl (OpT_assign rfl rfl rfl rfl) ?_
 refine Tops_nil (tZ [2, 3] [0, 1, 2, 3, 4] [0] rfl rfl rfl rfl ?_)
 obtain rfl := Option.some.inj h
 exact Tk_retV rfl rfl (resA (vs := [v1, vU8 ranges1.2.1]) rfl ⟨rfl, rfl, trivial⟩) [0, 1, 2, 3, 4] [] rfl rfl rfl ⟨v1, v2, rfl, rfl, rfl⟩

set_option maxRecDepth 100000 in
set_option maxHeartbeats 4000000 in
theorem w_blk_kind_does_3 {arg0 : blk_work} {arg0_s : sectors_Store} {b_arg0 : Nat} {b_arg0_s : Nat} {varg0s1 : Value} {mb_arg0_s : Nat} {varg01 : Value} {r : ((List UInt8) × UInt8)} (h : blk_kind_does_3 arg0 arg0_s = some r) :
  Ctr Try.prog 45 #[.pointer (some ⟨b_arg0, 0, none⟩)] [(cellsR b_arg0 80 [.pointer (some ⟨b_arg0_s, 0, none⟩), vU64 arg0.feats, vS arg0.name, varg01, vU64 arg0.at_, vU64 arg0.room]), (cellsR b_arg0_s 71 [varg0s1, .map (some mb_arg0_s)]), (rowS secS varg0s1 arg0_s.l), (mapR mb_arg0_s .i64 (fun x : Int => x) vSec arg0_s.fresh)] [Fact.sl u8S varg01 arg0.data]
   (fun rv own shr => ∃ (w1 : Value), rv = .tuple #[w1, vU8 r.2] ∧ own = [(cellsR b_arg0 80 [.pointer (some ⟨b_arg0_s, 0, none⟩), vU64 arg0.feats, vS arg0.name, varg01, vU64 arg0.at_, vU64 arg0.room]), (cellsR b_arg0_s 71 [varg0s1, .map (some mb_arg0_s)]), (rowS secS varg0s1 arg0_s.l), (mapR mb_arg0_s .i64 (fun x : Int => x) vSec arg0_s.fresh), (rowS u8S w1 r.1)] ∧ shr = []) := by
 unfold blk_kind_does_3 at h
 refine Ctr.mk (args := [.pointer (some ⟨b_arg0, 0, none⟩)]) Try.func45 rfl rfl (fun R0 w0 B => ?_)
 refine Tk_seq (Tk_region (Tops_step rfl (OpT_assign rfl rfl rfl rfl) ?_))
 refine Tops_step rfl (OpT_assign rfl rfl rfl rfl) ?_
 refine Tops_nil (tZ [] [0, 1, 2, 3] [0] rfl rfl rfl rfl ?_)
 refine Tk_seq (Tk_region (Tops_step rfl (OpT_assign rfl rfl rfl rfl) ?_))
 refine Tops_step rfl (OpT_assign rfl rfl rfl rfl) ?_
 refine Tops_nil (Tk_nilrow u8S ?_)
 obtain rfl := Option.some.inj h
 exact Tk_retV rfl rfl (resA (vs := [.slice none 0 0, vU8 (2 : UInt8)]) rfl ⟨rfl, rfl, trivial⟩) [0, 1, 2, 3, 4] [] rfl rfl rfl ⟨(.slice none 0 0), rfl, rfl, rfl⟩

set_option maxRecDepth 100000 in
set_option maxHeartbeats 4000000 in
theorem w_blk_Apply {sp0 : sectors_Store} {feats : UInt64} {name : List UInt8} {rp3 : Req} {b_sp0 : Nat} {vsp01 : Value} {mb_sp0 : Nat} {vrp31 : Value} {vrp32 : Value} {r : ((List UInt8) × UInt8 × Int × sectors_Store)} (h : blk_Apply sp0 feats name rp3 = some r) :
  Ctr Try.prog 10 #[.pointer (some ⟨b_sp0, 0, none⟩), vU64 feats, vS name, .agg #[vU32 rp3.Type_, vU64 rp3.Sector, vrp31, vI rp3.Room, vrp32]] [(cellsR b_sp0 71 [vsp01, .map (some mb_sp0)]), (rowS secS vsp01 sp0.l), (mapR mb_sp0 .i64 (fun x : Int => x) vSec sp0.fresh)] [Fact.sl u8S vrp31 rp3.Data, Fact.sl RangeS vrp32 rp3.Ranges]
   (fun rv own shr => ∃ (w1 : Value), ∃ (w2 : Value), rv = .tuple #[w1, vU8 r.2.1, vI r.2.2.1] ∧ own = [(cellsR b_sp0 71 [w2, .map (some mb_sp0)]), (rowS secS w2 r.2.2.2.l), (mapR mb_sp0 .i64 (fun x : Int => x) vSec r.2.2.2.fresh), (rowS u8S w1 r.1)] ∧ shr = []) := by
 unfold blk_Apply at h
 refine Ctr.mk (args := [.pointer (some ⟨b_sp0, 0, none⟩), vU64 feats, vS name, .agg #[vU32 rp3.Type_, vU64 rp3.Sector, vrp31, vI rp3.Room, vrp32]]) Try.func10 rfl rfl (fun R0 w0 B => ?_)
 refine Tk_seq (Tk_region (Tops_ex rfl (OpT_box rfl rfl rfl rfl) fun b1 => ?_))
 refine Tops_step rfl (OpT_assign rfl rfl rfl rfl) ?_
 refine Tops_step rfl (OpT_assign rfl rfl rfl rfl) ?_
 refine Tops_step rfl (OpT_assign rfl rfl rfl rfl) ?_
 refine Tops_nil (tZ [0, 1, 2, 7] [0, 1, 2, 3] [0, 1] rfl rfl rfl rfl ?_)
 refine Tk_seq (Tk_seq (Tk_region (Tops_step rfl (OpT_move rfl rfl rfl rfl) ?_)))
 refine Tops_step rfl (OpT_ptrNil rfl rfl rfl (.inl rfl) rfl rfl ptrF22) ?_
 refine Tops_nil (tZ [0, 1, 2, 7, 16] [0, 1, 2, 3] [0, 1] rfl rfl rfl rfl ?_)
 refine Tk_condF rfl ?_
 refine Tk_skip (Tk_seq (Tk_region (Tops_step rfl (OpT_loadCA (vs := [vU32 rp3.Type_, vU64 rp3.Sector, vrp31, vI rp3.Room, vrp32]) rfl rfl rfl rfl tyF35 (i := 3) rfl rfl rfl) ?_)))
 obtain ⟨bytes1, hx1, h⟩ := ob_e h
 refine Tops_exP rfl (OpT_call (w_blk_Bytes hx1) [] [0, 1] rfl rfl rfl rfl rfl callee8 rfl rfl rfl rfl) ?_
 rintro _ ⟨_, _, _, ⟨v1, rfl, rfl, rfl⟩, rfl⟩
 refine Tops_step rfl (OpT_move rfl rfl rfl rfl) ?_
 refine Tops_step rfl (OpT_extract rfl rfl rfl rfl rfl) ?_
 refine Tops_step rfl (OpT_extract rfl rfl rfl rfl rfl) ?_
 refine Tops_step rfl (OpT_assign rfl rfl rfl rfl) ?_
 refine Tops_step rfl (OpT_assign rfl rfl rfl rfl) ?_
 refine Tops_nil (tZ [0, 1, 2, 7, 11, 12] [0, 1, 2, 3, 4] [0, 1] rfl rfl rfl rfl ?_)
 refine Tk_seq (Tk_seq (Tk_region (Tops_step rfl (OpT_move rfl rfl rfl rfl) ?_)))
 refine Tops_step rfl (OpT_bin rfl rfl rfl rfl rfl (bin_neq_i (a := bytes1.2) (b := (0 : Int)))) ?_
 refine Tops_nil (tZ [0, 1, 2, 7, 11, 12, 23] [0, 1, 2, 3, 4] [0, 1] rfl rfl rfl rfl ?_)
 rcases Bool.eq_false_or_eq_true (bytes1.2 != (0 : Int)) with hg1 | hg1
 ·replace h := br_t hg1 h
  refine Tk_condT (congrArg (fun b => some (Value.bool b)) hg1) ?_
  refine Tk_seq (Tk_region (Tops_step rfl (OpT_move rfl rfl rfl rfl) ?_))
  refine Tops_step rfl (OpT_assign rfl rfl rfl rfl) ?_
  refine Tops_step rfl (OpT_assign rfl rfl rfl rfl) ?_
  refine Tops_step rfl (OpT_assign rfl rfl rfl rfl) ?_
  refine Tops_nil (tZ [8, 9, 10] [0, 1, 2] [] rfl rfl rfl rfl ?_)
  refine Tk_nilrow u8S ?_
  obtain rfl := Option.some.inj h
  exact Tk_retV rfl rfl (resA (vs := [.slice none 0 0, vU8 (0 : UInt8), vI bytes1.2]) rfl ⟨rfl, rfl, rfl, trivial⟩) [0, 1, 2, 3] [] rfl rfl rfl ⟨(.slice none 0 0), vsp01, rfl, rfl, rfl⟩
 ·replace h := br_f hg1 h
  refine Tk_condF (congrArg (fun b => some (Value.bool b)) hg1) ?_
  refine Tk_skip (Tk_seq (Tk_drawT (by kernel_rfl) ?_))
  refine TA_tb [0, 1, 3, 0, 0, 0, 0, 64, 0, 256, 0, 1024, 3072, 8184, 16376, 32767, 65535, 131071, 131071, 262143, 1048575] (by kernel_rfl) fun htb => ?_
  refine aZ [0, 1, 2, 7, 11] [0, 1, 2, 3, 4] [0, 1] rfl rfl rfl rfl ?_
  obtain ⟨does1, hx2, h⟩ := ob_e h
  obtain ⟨hc1, h⟩ := chk_e h
  refine TA_seg (lo := 0) (hi := 15) htb rfl rfl (by kernel_rfl) (fun c L a w => ∃ (b2 : Nat), Sat c ⟨[(0, some (.pointer (some ⟨b_sp0, 0, none⟩))), (1, some (vU64 feats)), (2, some (vS name)), (7, some (.pointer (some ⟨b1, 0, none⟩))), (11, some (v1)), (26, bif L 0 then some (.pointer (some ⟨b1, 0, none⟩)) else none), (27, bif L 1 then some (vU32 rp3.Type_) else none), (28, bif L 2 then some (.func (.func does1) #[] #[]) else none), (29, bif L 3 then some (.pointer (some ⟨b_sp0, 0, none⟩)) else none), (30, bif L 4 then some (vU64 feats) else none), (31, bif L 5 then some (vS name) else none), (32, bif L 6 then some (v1) else none), (33, bif L 7 then some (subV v1 1 (Int.toNat (16 : Int)) (Int.toNat (len bytes1.1))) else none), (34, bif L 8 then some (.pointer (some ⟨b1, 1, none⟩)) else none), (35, bif L 9 then some (vU64 rp3.Sector) else none), (36, bif L 10 then some (.pointer (some ⟨b1, 3, none⟩)) else none), (37, bif L 11 then some (vI rp3.Room) else none), (38, bif L 12 then some (vU64 (u64 rp3.Room)) else none), (39, bif L 13 then some (.agg #[.pointer (some ⟨b_sp0, 0, none⟩), vU64 feats, vS name, subV v1 1 (Int.toNat (16 : Int)) (Int.toNat (len bytes1.1)), vU64 rp3.Sector, vU64 (u64 rp3.Room)]) else none), (40, bif L 14 then some (.pointer (some ⟨b2, 0, none⟩)) else none)], [(some (cellsR b_sp0 71 [vsp01, .map (some mb_sp0)]) : Option Res), (some (rowS secS vsp01 sp0.l) : Option Res), (some (mapR mb_sp0 .i64 (fun x : Int => x) vSec sp0.fresh) : Option Res), (some (cellsR b1 35 [vU32 rp3.Type_, vU64 rp3.Sector, vrp31, vI rp3.Room, vrp32]) : Option Res), (some (rowS u8S v1 bytes1.1) : Option Res), (bif L 14 then some (cellsR b2 80 [.pointer (some ⟨b_sp0, 0, none⟩), vU64 feats, vS name, subV v1 1 (Int.toNat (16 : Int)) (Int.toNat (len bytes1.1)), vU64 rp3.Sector, vU64 (u64 rp3.Room)]) else none : Option Res)], [Fact.sl u8S vrp31 rp3.Data, Fact.sl RangeS vrp32 rp3.Ranges]⟩ a w) [([], [1, 2]), ([0], [2]), ([0, 1], []), ([], [13, 14]), ([], [13, 14]), ([], [13, 14]), ([], [7, 13, 14]), ([6], [13, 14]), ([], [9, 13, 14]), ([8], [13, 14]), ([], [11, 12, 13, 14]), ([10], [12, 13, 14]), ([10, 11], [13, 14]), ([3, 4, 5, 6, 7, 8, 9, 10, 11, 12], [14]), ([3, 4, 5, 6, 7, 8, 9, 10, 11, 12, 13], [])] rfl (by kernel_rfl) ?_ (steps_cons ?_ (steps_cons ?_ (steps_cons ?_ (steps_cons ?_ (steps_cons ?_ (steps_cons ?_ (steps_cons ?_ (steps_cons ?_ (steps_cons ?_ (steps_cons ?_ (steps_cons ?_ (steps_cons ?_ (steps_cons ?_ (steps_cons ?_ (steps_cons ?_ (steps_nil)))))))))))))))) ?_
  ·intro a w hs
   exact ⟨0, hs.startF [26, 27, 28, 29, 30, 31, 32, 33, 34, 35, 36, 37, 38, 39, 40] [0, 1, 2, 3, 4, 5] [0, 1] rfl rfl rfl rfl⟩
  ·intro L a w hv K Q hK
   obtain ⟨b2, hs⟩ := hv
   refine wpOp_go rfl rfl hs (OpT_fieldC rfl rfl rfl rfl fldF35x0) ?_
   rintro _ rfl a' w' hs'
   exact hK a' w' ⟨b2, hs'.putF (i := 5) rfl [0, 1, 2, 3, 4, 5] [0, 1] rfl rfl rfl rfl⟩
  ·intro L a w hv K Q hK
   obtain ⟨b2, hs⟩ := hv
   refine wpOp_go rfl rfl hs (OpT_loadC rfl rfl rfl rfl tyF29 (i := 3) rfl rfl) ?_
   rintro _ rfl a' w' hs'
   exact hK a' w' ⟨b2, hs'.putF (i := 6) rfl [0, 1, 2, 3, 4, 5] [0, 1] rfl rfl rfl rfl⟩
  ·intro L a w hv K Q hK
   obtain ⟨b2, hs⟩ := hv
   refine wpOp_go rfl rfl hs (OpT_call (w_blk_kind_does hx2) [] [] rfl rfl rfl rfl rfl callee26 rfl rfl rfl rfl) ?_
   rintro _ ⟨_, _, _, ⟨rfl, rfl, rfl⟩, rfl⟩ a' w' hs'
   exact hK a' w' ⟨b2, hs'.putF (i := 7) rfl [0, 1, 2, 3, 4, 5] [0, 1] rfl rfl rfl rfl⟩
  ·intro L a w hv K Q hK
   obtain ⟨b2, hs⟩ := hv
   refine wpOp_go rfl rfl hs (OpT_move rfl rfl rfl rfl) ?_
   rintro _ rfl a' w' hs'
   exact hK a' w' ⟨b2, hs'.putF (i := 8) rfl [0, 1, 2, 3, 4, 5] [0, 1] rfl rfl rfl rfl⟩
  ·intro L a w hv K Q hK
   obtain ⟨b2, hs⟩ := hv
   refine wpOp_go rfl rfl hs (OpT_move rfl rfl rfl rfl) ?_
   rintro _ rfl a' w' hs'
   exact hK a' w' ⟨b2, hs'.putF (i := 9) rfl [0, 1, 2, 3, 4, 5] [0, 1] rfl rfl rfl rfl⟩
  ·intro L a w hv K Q hK
   obtain ⟨b2, hs⟩ := hv
   refine wpOp_go rfl rfl hs (OpT_move rfl rfl rfl rfl) ?_
   rintro _ rfl a' w' hs'
   exact hK a' w' ⟨b2, hs'.putF (i := 10) rfl [0, 1, 2, 3, 4, 5] [0, 1] rfl rfl rfl rfl⟩
  ·intro L a w hv K Q hK
   obtain ⟨b2, hs⟩ := hv
   refine wpOp_go rfl rfl hs (OpT_move rfl rfl rfl rfl) ?_
   rintro _ rfl a' w' hs'
   exact hK a' w' ⟨b2, hs'.putF (i := 11) rfl [0, 1, 2, 3, 4, 5] [0, 1] rfl rfl rfl rfl⟩
  ·intro L a w hv K Q hK
   obtain ⟨b2, hs⟩ := hv
   refine wpOp_go rfl rfl hs (OpT_subL (S := u8S) (l := (16 : Int)) rfl rfl rfl rfl rfl slF26 (i := 4) rfl hc1) ?_
   rintro _ rfl a' w' hs'
   exact hK a' w' ⟨b2, hs'.putF (i := 12) rfl [0, 1, 2, 3, 4, 5] [0, 1] rfl rfl rfl rfl⟩
  ·intro L a w hv K Q hK
   obtain ⟨b2, hs⟩ := hv
   refine wpOp_go rfl rfl hs (OpT_fieldC rfl rfl rfl rfl fldF35x1) ?_
   rintro _ rfl a' w' hs'
   exact hK a' w' ⟨b2, hs'.putF (i := 13) rfl [0, 1, 2, 3, 4, 5] [0, 1] rfl rfl rfl rfl⟩
  ·intro L a w hv K Q hK
   obtain ⟨b2, hs⟩ := hv
   refine wpOp_go rfl rfl hs (OpT_loadC rfl rfl rfl rfl tyF30 (i := 3) rfl rfl) ?_
   rintro _ rfl a' w' hs'
   exact hK a' w' ⟨b2, hs'.putF (i := 14) rfl [0, 1, 2, 3, 4, 5] [0, 1] rfl rfl rfl rfl⟩
  ·intro L a w hv K Q hK
   obtain ⟨b2, hs⟩ := hv
   refine wpOp_go rfl rfl hs (OpT_fieldC rfl rfl rfl rfl fldF35x3) ?_
   rintro _ rfl a' w' hs'
   exact hK a' w' ⟨b2, hs'.putF (i := 15) rfl [0, 1, 2, 3, 4, 5] [0, 1] rfl rfl rfl rfl⟩
  ·intro L a w hv K Q hK
   obtain ⟨b2, hs⟩ := hv
   refine wpOp_go rfl rfl hs (OpT_loadC rfl rfl rfl rfl tyF3 (i := 3) rfl rfl) ?_
   rintro _ rfl a' w' hs'
   exact hK a' w' ⟨b2, hs'.putF (i := 16) rfl [0, 1, 2, 3, 4, 5] [0, 1] rfl rfl rfl rfl⟩
  ·intro L a w hv K Q hK
   obtain ⟨b2, hs⟩ := hv
   refine wpOp_go rfl rfl hs (OpT_cnv rfl rfl rfl rfl (cnv_i_u64 (n := rp3.Room) Try.underlying3 Try.underlying30)) ?_
   rintro _ rfl a' w' hs'
   exact hK a' w' ⟨b2, hs'.putF (i := 17) rfl [0, 1, 2, 3, 4, 5] [0, 1] rfl rfl rfl rfl⟩
  ·intro L a w hv K Q hK
   obtain ⟨b2, hs⟩ := hv
   refine wpOp_go rfl rfl hs (OpT_build1 (fun z0 => [(0, .pointer (some ⟨b_sp0, 0, none⟩)), (1, vU64 feats), (2, vS name), (3, z0), (4, vU64 rp3.Sector), (5, vU64 (u64 rp3.Room))]) (fun z0 => [.pointer (some ⟨b_sp0, 0, none⟩), vU64 feats, vS name, z0, vU64 rp3.Sector, vU64 (u64 rp3.Room)]) rfl rfl rfl rfl (is_sub (i := 4) rfl) (by intros; kernel_rfl)) ?_
   rintro _ rfl a' w' hs'
   exact hK a' w' ⟨b2, hs'.putF (i := 18) rfl [0, 1, 2, 3, 4, 5] [0, 1] rfl rfl rfl rfl⟩
  ·intro L a w hv K Q hK
   obtain ⟨b2, hs⟩ := hv
   refine wpOp_go rfl rfl hs (OpT_box rfl rfl rfl rfl) ?_
   rintro _ ⟨b2', rfl⟩ a' w' hs'
   exact hK a' w' ⟨b2', hs'.putF (i := 19) rfl [0, 1, 2, 3, 4, 6] [0, 1] rfl rfl rfl rfl⟩
  ·intro L a w hL hv
   rw [allTrue hL] at hv
   obtain ⟨b2, hs⟩ := hv
   refine gZ hs [28, 40] [0, 1, 2, 4, 5] [] rfl rfl rfl rfl ?_
   clear hs hL
   rcases Bool.eq_false_or_eq_true (does1 == 38) with hg2 | hg2
   ·replace h := br_t hg2 h
    revert h
    obtain rfl : does1 = 38 := eq_of_beq hg2
    intro h
    refine TA_retire (i := 3) rfl ?_
    refine TA_vs (vs_subSl (l := (16 : Int)) (m := (len bytes1.1)) (i := 0) rfl hc1) ?_
    obtain ⟨in1, hx3, h⟩ := ob_e h
    refine TA_exP htb (by kernel_rfl) rfl rfl (OpT_callP [6, 7, 8, 3, 5, 9] (w_blk_work_in hx3) [4, 0, 1, 2] [1] rfl rfl rfl rfl rfl callee38 rfl rfl rfl rfl rfl) ?_
    rintro _ ⟨_, _, _, ⟨v2, v3, rfl, rfl, rfl⟩, rfl⟩
    refine TA_step htb (by kernel_rfl) rfl rfl (OpT_move rfl rfl rfl rfl) ?_
    refine aZ [25] [0, 1, 2, 5] [] rfl rfl rfl rfl ?_
    refine TA_seg (lo := 17) (hi := 20) htb rfl rfl (by kernel_rfl) (fun c L a w => Sat c ⟨[(25, some (.tuple #[v2, vU8 in1.2.1])), (42, bif L 17 then some (v2) else none), (43, bif L 18 then some (vU8 in1.2.1) else none), (13, bif L 19 then some (v2) else none)], [(some (cellsR b_sp0 71 [v3, .map (some mb_sp0)]) : Option Res), (some (rowS secS v3 in1.2.2.l) : Option Res), (some (mapR mb_sp0 .i64 (fun x : Int => x) vSec in1.2.2.fresh) : Option Res), (some (rowS u8S v2 in1.1) : Option Res)], []⟩ a w) [([], [19]), ([], []), ([17], [])] rfl (by kernel_rfl) ?_ (steps_cons ?_ (steps_cons ?_ (steps_cons ?_ (steps_nil)))) ?_
    ·intro a w hs
     exact hs.startF [42, 43, 13] [0, 1, 2, 3] [] rfl rfl rfl rfl
    ·intro L a w hv K Q hK
     have hs := hv
     refine wpOp_go rfl rfl hs (OpT_extract rfl rfl rfl rfl rfl) ?_
     rintro _ rfl a' w' hs'
     exact hK a' w' (hs'.putF (i := 1) rfl [0, 1, 2, 3] [] rfl rfl rfl rfl)
    ·intro L a w hv K Q hK
     have hs := hv
     refine wpOp_go rfl rfl hs (OpT_extract rfl rfl rfl rfl rfl) ?_
     rintro _ rfl a' w' hs'
     exact hK a' w' (hs'.putF (i := 2) rfl [0, 1, 2, 3] [] rfl rfl rfl rfl)
    ·intro L a w hv K Q hK
     have hs := hv
     refine wpOp_go rfl rfl hs (OpT_assign rfl rfl rfl rfl) ?_
     rintro _ rfl a' w' hs'
     exact hK a' w' (hs'.putF (i := 3) rfl [0, 1, 2, 3] [] rfl rfl rfl rfl)
    ·intro L a w hL hv
     rw [allTrue hL] at hv
     have hs := hv
     refine gZ hs [43, 13] [0, 1, 2, 3] [] rfl rfl rfl rfl ?_
     clear hs hL
     refine TA_step htb (by kernel_rfl) rfl rfl (OpT_assign rfl rfl rfl rfl) ?_
     refine TA_end rfl ?_
     refine tZ [13, 14] [0, 1, 2, 3] [] rfl rfl rfl rfl ?_
     refine Tk_seq (Tk_region (Tops_step rfl (OpT_move rfl rfl rfl rfl) ?_))
     refine Tops_step rfl (OpT_move rfl rfl rfl rfl) ?_
     refine Tops_step rfl (OpT_assign rfl rfl rfl rfl) ?_
     refine Tops_step rfl (OpT_assign rfl rfl rfl rfl) ?_
     refine Tops_step rfl (OpT_assign rfl rfl rfl rfl) ?_
     refine Tops_nil (tZ [8, 9, 10] [0, 1, 2, 3] [] rfl rfl rfl rfl ?_)
     obtain rfl := Option.some.inj h
     exact Tk_retV rfl rfl (resA (vs := [v2, vU8 in1.2.1, vI (0 : Int)]) rfl ⟨rfl, rfl, rfl, trivial⟩) [0, 1, 2, 3] [] rfl rfl rfl ⟨v2, v3, rfl, rfl, rfl⟩
   ·replace h := br_f hg2 h
    rcases Bool.eq_false_or_eq_true (does1 == 39) with hg3 | hg3
    ·replace h := br_t hg3 h
     revert h
     obtain rfl : does1 = 39 := eq_of_beq hg3
     intro h
     refine TA_retire (i := 3) rfl ?_
     refine TA_vs (vs_subSl (l := (16 : Int)) (m := (len bytes1.1)) (i := 0) rfl hc1) ?_
     obtain ⟨out1, hx4, h⟩ := ob_e h
     refine TA_exP htb (by kernel_rfl) rfl rfl (OpT_callP [6, 7, 8, 3, 5, 9] (w_blk_work_out hx4) [4, 0, 1, 2] [1] rfl rfl rfl rfl rfl callee39 rfl rfl rfl rfl rfl) ?_
     rintro _ ⟨_, _, _, ⟨v4, v5, rfl, rfl, rfl⟩, rfl⟩
     refine TA_step htb (by kernel_rfl) rfl rfl (OpT_move rfl rfl rfl rfl) ?_
     refine aZ [25] [0, 1, 2, 5] [] rfl rfl rfl rfl ?_
     refine TA_seg (lo := 17) (hi := 20) htb rfl rfl (by kernel_rfl) (fun c L a w => Sat c ⟨[(25, some (.tuple #[v4, vU8 out1.2.1])), (42, bif L 17 then some (v4) else none), (43, bif L 18 then some (vU8 out1.2.1) else none), (13, bif L 19 then some (v4) else none)], [(some (cellsR b_sp0 71 [v5, .map (some mb_sp0)]) : Option Res), (some (rowS secS v5 out1.2.2.l) : Option Res), (some (mapR mb_sp0 .i64 (fun x : Int => x) vSec out1.2.2.fresh) : Option Res), (some (rowS u8S v4 out1.1) : Option Res)], []⟩ a w) [([], [19]), ([], []), ([17], [])] rfl (by kernel_rfl) ?_ (steps_cons ?_ (steps_cons ?_ (steps_cons ?_ (steps_nil)))) ?_
     ·intro a w hs
      exact hs.startF [42, 43, 13] [0, 1, 2, 3] [] rfl rfl rfl rfl
     ·intro L a w hv K Q hK
      have hs := hv
      refine wpOp_go rfl rfl hs (OpT_extract rfl rfl rfl rfl rfl) ?_
      rintro _ rfl a' w' hs'
      exact hK a' w' (hs'.putF (i := 1) rfl [0, 1, 2, 3] [] rfl rfl rfl rfl)
     ·intro L a w hv K Q hK
      have hs := hv
      refine wpOp_go rfl rfl hs (OpT_extract rfl rfl rfl rfl rfl) ?_
      rintro _ rfl a' w' hs'
      exact hK a' w' (hs'.putF (i := 2) rfl [0, 1, 2, 3] [] rfl rfl rfl rfl)
     ·intro L a w hv K Q hK
      have hs := hv
      refine wpOp_go rfl rfl hs (OpT_assign rfl rfl rfl rfl) ?_
      rintro _ rfl a' w' hs'
      exact hK a' w' (hs'.putF (i := 3) rfl [0, 1, 2, 3] [] rfl rfl rfl rfl)
     ·intro L a w hL hv
      rw [allTrue hL] at hv
      have hs := hv
      refine gZ hs [43, 13] [0, 1, 2, 3] [] rfl rfl rfl rfl ?_
      clear hs hL
      refine TA_step htb (by kernel_rfl) rfl rfl (OpT_assign rfl rfl rfl rfl) ?_
      refine TA_end rfl ?_
      refine tZ [13, 14] [0, 1, 2, 3] [] rfl rfl rfl rfl ?_
      refine Tk_seq (Tk_region (Tops_step rfl (OpT_move rfl rfl rfl rfl) ?_))
      refine Tops_step rfl (OpT_move rfl rfl rfl rfl) ?_
      refine Tops_step rfl (OpT_assign rfl rfl rfl rfl) ?_
      refine Tops_step rfl (OpT_assign rfl rfl rfl rfl) ?_
      refine Tops_step rfl (OpT_assign rfl rfl rfl rfl) ?_
      refine Tops_nil (tZ [8, 9, 10] [0, 1, 2, 3] [] rfl rfl rfl rfl ?_)
      obtain rfl := Option.some.inj h
      exact Tk_retV rfl rfl (resA (vs := [v4, vU8 out1.2.1, vI (0 : Int)]) rfl ⟨rfl, rfl, rfl, trivial⟩) [0, 1, 2, 3] [] rfl rfl rfl ⟨v4, v5, rfl, rfl, rfl⟩
    ·replace h := br_f hg3 h
     rcases Bool.eq_false_or_eq_true (does1 == 40) with hg4 | hg4
     ·replace h := br_t hg4 h
      revert h
      obtain rfl : does1 = 40 := eq_of_beq hg4
      intro h
      refine TA_retire (i := 3) rfl ?_
      refine TA_vs (vs_subSl (l := (16 : Int)) (m := (len bytes1.1)) (i := 0) rfl hc1) ?_
      obtain ⟨sync1, hx5, h⟩ := ob_e h
      refine TA_exP htb (by kernel_rfl) rfl rfl (OpT_callP [6, 7, 8, 3, 5, 9] (w_blk_work_sync hx5) [4, 0, 1, 2] [1] rfl rfl rfl rfl rfl callee40 rfl rfl rfl rfl rfl) ?_
      rintro _ ⟨_, _, _, ⟨v6, v7, rfl, rfl, rfl⟩, rfl⟩
      refine TA_step htb (by kernel_rfl) rfl rfl (OpT_move rfl rfl rfl rfl) ?_
      refine aZ [25] [0, 1, 2, 5] [] rfl rfl rfl rfl ?_
      refine TA_seg (lo := 17) (hi := 20) htb rfl rfl (by kernel_rfl) (fun c L a w => Sat c ⟨[(25, some (.tuple #[v6, vU8 sync1.2.1])), (42, bif L 17 then some (v6) else none), (43, bif L 18 then some (vU8 sync1.2.1) else none), (13, bif L 19 then some (v6) else none)], [(some (cellsR b_sp0 71 [v7, .map (some mb_sp0)]) : Option Res), (some (rowS secS v7 sync1.2.2.l) : Option Res), (some (mapR mb_sp0 .i64 (fun x : Int => x) vSec sync1.2.2.fresh) : Option Res), (some (rowS u8S v6 sync1.1) : Option Res)], []⟩ a w) [([], [19]), ([], []), ([17], [])] rfl (by kernel_rfl) ?_ (steps_cons ?_ (steps_cons ?_ (steps_cons ?_ (steps_nil)))) ?_
      ·intro a w hs
       exact hs.startF [42, 43, 13] [0, 1, 2, 3] [] rfl rfl rfl rfl
      ·intro L a w hv K Q hK
       have hs := hv
       refine wpOp_go rfl rfl hs (OpT_extract rfl rfl rfl rfl rfl) ?_
       rintro _ rfl a' w' hs'
       exact hK a' w' (hs'.putF (i := 1) rfl [0, 1, 2, 3] [] rfl rfl rfl rfl)
      ·intro L a w hv K Q hK
       have hs := hv
       refine wpOp_go rfl rfl hs (OpT_extract rfl rfl rfl rfl rfl) ?_
       rintro _ rfl a' w' hs'
       exact hK a' w' (hs'.putF (i := 2) rfl [0, 1, 2, 3] [] rfl rfl rfl rfl)
      ·intro L a w hv K Q hK
       have hs := hv
       refine wpOp_go rfl rfl hs (OpT_assign rfl rfl rfl rfl) ?_
       rintro _ rfl a' w' hs'
       exact hK a' w' (hs'.putF (i := 3) rfl [0, 1, 2, 3] [] rfl rfl rfl rfl)
      ·intro L a w hL hv
       rw [allTrue hL] at hv
       have hs := hv
       refine gZ hs [43, 13] [0, 1, 2, 3] [] rfl rfl rfl rfl ?_
       clear hs hL
       refine TA_step htb (by kernel_rfl) rfl rfl (OpT_assign rfl rfl rfl rfl) ?_
       refine TA_end rfl ?_
       refine tZ [13, 14] [0, 1, 2, 3] [] rfl rfl rfl rfl ?_
       refine Tk_seq (Tk_region (Tops_step rfl (OpT_move rfl rfl rfl rfl) ?_))
       refine Tops_step rfl (OpT_move rfl rfl rfl rfl) ?_
       refine Tops_step rfl (OpT_assign rfl rfl rfl rfl) ?_
       refine Tops_step rfl (OpT_assign rfl rfl rfl rfl) ?_
       refine Tops_step rfl (OpT_assign rfl rfl rfl rfl) ?_
       refine Tops_nil (tZ [8, 9, 10] [0, 1, 2, 3] [] rfl rfl rfl rfl ?_)
       obtain rfl := Option.some.inj h
       exact Tk_retV rfl rfl (resA (vs := [v6, vU8 sync1.2.1, vI (0 : Int)]) rfl ⟨rfl, rfl, rfl, trivial⟩) [0, 1, 2, 3] [] rfl rfl rfl ⟨v6, v7, rfl, rfl, rfl⟩
     ·replace h := br_f hg4 h
      rcases Bool.eq_false_or_eq_true (does1 == 41) with hg5 | hg5
      ·replace h := br_t hg5 h
       revert h
       obtain rfl : does1 = 41 := eq_of_beq hg5
       intro h
       refine TA_retire (i := 3) rfl ?_
       refine TA_vs (vs_subSl (l := (16 : Int)) (m := (len bytes1.1)) (i := 0) rfl hc1) ?_
       obtain ⟨id1, hx6, h⟩ := ob_e h
       refine TA_exP htb (by kernel_rfl) rfl rfl (OpT_callP [6, 7, 8, 3, 5, 9] (w_blk_work_id hx6) [4, 0, 1, 2] [1] rfl rfl rfl rfl rfl callee41 rfl rfl rfl rfl rfl) ?_
       rintro _ ⟨_, _, _, ⟨v8, rfl, rfl, rfl⟩, rfl⟩
       refine TA_step htb (by kernel_rfl) rfl rfl (OpT_move rfl rfl rfl rfl) ?_
       refine aZ [25] [0, 1, 2, 5] [] rfl rfl rfl rfl ?_
       refine TA_seg (lo := 17) (hi := 20) htb rfl rfl (by kernel_rfl) (fun c L a w => Sat c ⟨[(25, some (.tuple #[v8, vU8 id1.2])), (42, bif L 17 then some (v8) else none), (43, bif L 18 then some (vU8 id1.2) else none), (13, bif L 19 then some (v8) else none)], [(some (cellsR b_sp0 71 [vsp01, .map (some mb_sp0)]) : Option Res), (some (rowS secS vsp01 sp0.l) : Option Res), (some (mapR mb_sp0 .i64 (fun x : Int => x) vSec sp0.fresh) : Option Res), (some (rowS u8S v8 id1.1) : Option Res)], []⟩ a w) [([], [19]), ([], []), ([17], [])] rfl (by kernel_rfl) ?_ (steps_cons ?_ (steps_cons ?_ (steps_cons ?_ (steps_nil)))) ?_
       ·intro a w hs
        exact hs.startF [42, 43, 13] [0, 1, 2, 3] [] rfl rfl rfl rfl
       ·intro L a w hv K Q hK
        have hs := hv
        refine wpOp_go rfl rfl hs (OpT_extract rfl rfl rfl rfl rfl) ?_
        rintro _ rfl a' w' hs'
        exact hK a' w' (hs'.putF (i := 1) rfl [0, 1, 2, 3] [] rfl rfl rfl rfl)
       ·intro L a w hv K Q hK
        have hs := hv
        refine wpOp_go rfl rfl hs (OpT_extract rfl rfl rfl rfl rfl) ?_
        rintro _ rfl a' w' hs'
        exact hK a' w' (hs'.putF (i := 2) rfl [0, 1, 2, 3] [] rfl rfl rfl rfl)
       ·intro L a w hv K Q hK
        have hs := hv
        refine wpOp_go rfl rfl hs (OpT_assign rfl rfl rfl rfl) ?_
        rintro _ rfl a' w' hs'
        exact hK a' w' (hs'.putF (i := 3) rfl [0, 1, 2, 3] [] rfl rfl rfl rfl)
       ·intro L a w hL hv
        rw [allTrue hL] at hv
        have hs := hv
        refine gZ hs [43, 13] [0, 1, 2, 3] [] rfl rfl rfl rfl ?_
        clear hs hL
        refine TA_step htb (by kernel_rfl) rfl rfl (OpT_assign rfl rfl rfl rfl) ?_
        refine TA_end rfl ?_
        refine tZ [13, 14] [0, 1, 2, 3] [] rfl rfl rfl rfl ?_
        refine Tk_seq (Tk_region (Tops_step rfl (OpT_move rfl rfl rfl rfl) ?_))
        refine Tops_step rfl (OpT_move rfl rfl rfl rfl) ?_
        refine Tops_step rfl (OpT_assign rfl rfl rfl rfl) ?_
        refine Tops_step rfl (OpT_assign rfl rfl rfl rfl) ?_
        refine Tops_step rfl (OpT_assign rfl rfl rfl rfl) ?_
        refine Tops_nil (tZ [8, 9, 10] [0, 1, 2, 3] [] rfl rfl rfl rfl ?_)
        obtain rfl := Option.some.inj h
        exact Tk_retV rfl rfl (resA (vs := [v8, vU8 id1.2, vI (0 : Int)]) rfl ⟨rfl, rfl, rfl, trivial⟩) [0, 1, 2, 3] [] rfl rfl rfl ⟨v8, vsp01, rfl, rfl, rfl⟩
      ·replace h := br_f hg5 h
       rcases Bool.eq_false_or_eq_true (does1 == 42) with hg6 | hg6
       ·replace h := br_t hg6 h
        revert h
        obtain rfl : does1 = 42 := eq_of_beq hg6
        intro h
        refine TA_retire (i := 3) rfl ?_
        refine TA_vs (vs_subSl (l := (16 : Int)) (m := (len bytes1.1)) (i := 0) rfl hc1) ?_
        obtain ⟨does2, hx7, h⟩ := ob_e h
        refine TA_exP htb (by kernel_rfl) rfl rfl (OpT_callP [6, 7, 8, 3, 5, 9] (w_blk_kind_does_1 hx7) [4, 0, 1, 2] [1] rfl rfl rfl rfl rfl callee42 rfl rfl rfl rfl rfl) ?_
        rintro _ ⟨_, _, _, ⟨v9, v10, rfl, rfl, rfl⟩, rfl⟩
        refine TA_step htb (by kernel_rfl) rfl rfl (OpT_move rfl rfl rfl rfl) ?_
        refine aZ [25] [0, 1, 2, 5] [] rfl rfl rfl rfl ?_
        refine TA_seg (lo := 17) (hi := 20) htb rfl rfl (by kernel_rfl) (fun c L a w => Sat c ⟨[(25, some (.tuple #[v9, vU8 does2.2.1])), (42, bif L 17 then some (v9) else none), (43, bif L 18 then some (vU8 does2.2.1) else none), (13, bif L 19 then some (v9) else none)], [(some (cellsR b_sp0 71 [v10, .map (some mb_sp0)]) : Option Res), (some (rowS secS v10 does2.2.2.l) : Option Res), (some (mapR mb_sp0 .i64 (fun x : Int => x) vSec does2.2.2.fresh) : Option Res), (some (rowS u8S v9 does2.1) : Option Res)], []⟩ a w) [([], [19]), ([], []), ([17], [])] rfl (by kernel_rfl) ?_ (steps_cons ?_ (steps_cons ?_ (steps_cons ?_ (steps_nil)))) ?_
        ·intro a w hs
         exact hs.startF [42, 43, 13] [0, 1, 2, 3] [] rfl rfl rfl rfl
        ·intro L a w hv K Q hK
         have hs := hv
         refine wpOp_go rfl rfl hs (OpT_extract rfl rfl rfl rfl rfl) ?_
         rintro _ rfl a' w' hs'
         exact hK a' w' (hs'.putF (i := 1) rfl [0, 1, 2, 3] [] rfl rfl rfl rfl)
        ·intro L a w hv K Q hK
         have hs := hv
         refine wpOp_go rfl rfl hs (OpT_extract rfl rfl rfl rfl rfl) ?_
         rintro _ rfl a' w' hs'
         exact hK a' w' (hs'.putF (i := 2) rfl [0, 1, 2, 3] [] rfl rfl rfl rfl)
        ·intro L a w hv K Q hK
         have hs := hv
         refine wpOp_go rfl rfl hs (OpT_assign rfl rfl rfl rfl) ?_
         rintro _ rfl a' w' hs'
         exact hK a' w' (hs'.putF (i := 3) rfl [0, 1, 2, 3] [] rfl rfl rfl rfl)
        ·intro L a w hL hv
         rw [allTrue hL] at hv
         have hs := hv
         refine gZ hs [43, 13] [0, 1, 2, 3] [] rfl rfl rfl rfl ?_
         clear hs hL
         refine TA_step htb (by kernel_rfl) rfl rfl (OpT_assign rfl rfl rfl rfl) ?_
         refine TA_end rfl ?_
         refine tZ [13, 14] [0, 1, 2, 3] [] rfl rfl rfl rfl ?_
         refine Tk_seq (Tk_region (Tops_step rfl (OpT_move rfl rfl rfl rfl) ?_))
         refine Tops_step rfl (OpT_move rfl rfl rfl rfl) ?_
         refine Tops_step rfl (OpT_assign rfl rfl rfl rfl) ?_
         refine Tops_step rfl (OpT_assign rfl rfl rfl rfl) ?_
         refine Tops_step rfl (OpT_assign rfl rfl rfl rfl) ?_
         refine Tops_nil (tZ [8, 9, 10] [0, 1, 2, 3] [] rfl rfl rfl rfl ?_)
         obtain rfl := Option.some.inj h
         exact Tk_retV rfl rfl (resA (vs := [v9, vU8 does2.2.1, vI (0 : Int)]) rfl ⟨rfl, rfl, rfl, trivial⟩) [0, 1, 2, 3] [] rfl rfl rfl ⟨v9, v10, rfl, rfl, rfl⟩
       ·replace h := br_f hg6 h
        rcases Bool.eq_false_or_eq_true (does1 == 44) with hg7 | hg7
        ·replace h := br_t hg7 h
         revert h
         obtain rfl : does1 = 44 := eq_of_beq hg7
         intro h
         refine TA_retire (i := 3) rfl ?_
         refine TA_vs (vs_subSl (l := (16 : Int)) (m := (len bytes1.1)) (i := 0) rfl hc1) ?_
         obtain ⟨does3, hx8, h⟩ := ob_e h
         refine TA_exP htb (by kernel_rfl) rfl rfl (OpT_callP [6, 7, 8, 3, 5, 9] (w_blk_kind_does_2 hx8) [4, 0, 1, 2] [1] rfl rfl rfl rfl rfl callee44 rfl rfl rfl rfl rfl) ?_
         rintro _ ⟨_, _, _, ⟨v11, v12, rfl, rfl, rfl⟩, rfl⟩
         refine TA_step htb (by kernel_rfl) rfl rfl (OpT_move rfl rfl rfl rfl) ?_
         refine aZ [25] [0, 1, 2, 5] [] rfl rfl rfl rfl ?_
         refine TA_seg (lo := 17) (hi := 20) htb rfl rfl (by kernel_rfl) (fun c L a w => Sat c ⟨[(25, some (.tuple #[v11, vU8 does3.2.1])), (42, bif L 17 then some (v11) else none), (43, bif L 18 then some (vU8 does3.2.1) else none), (13, bif L 19 then some (v11) else none)], [(some (cellsR b_sp0 71 [v12, .map (some mb_sp0)]) : Option Res), (some (rowS secS v12 does3.2.2.l) : Option Res), (some (mapR mb_sp0 .i64 (fun x : Int => x) vSec does3.2.2.fresh) : Option Res), (some (rowS u8S v11 does3.1) : Option Res)], []⟩ a w) [([], [19]), ([], []), ([17], [])] rfl (by kernel_rfl) ?_ (steps_cons ?_ (steps_cons ?_ (steps_cons ?_ (steps_nil)))) ?_
         ·intro a w hs
          exact hs.startF [42, 43, 13] [0, 1, 2, 3] [] rfl rfl rfl rfl
         ·intro L a w hv K Q hK
          have hs := hv
          refine wpOp_go rfl rfl hs (OpT_extract rfl rfl rfl rfl rfl) ?_
          rintro _ rfl a' w' hs'
          exact hK a' w' (hs'.putF (i := 1) rfl [0, 1, 2, 3] [] rfl rfl rfl rfl)
         ·intro L a w hv K Q hK
          have hs := hv
          refine wpOp_go rfl rfl hs (OpT_extract rfl rfl rfl rfl rfl) ?_
          rintro _ rfl a' w' hs'
          exact hK a' w' (hs'.putF (i := 2) rfl [0, 1, 2, 3] [] rfl rfl rfl rfl)
         ·intro L a w hv K Q hK
          have hs := hv
          refine wpOp_go rfl rfl hs (OpT_assign rfl rfl rfl rfl) ?_
          rintro _ rfl a' w' hs'
          exact hK a' w' (hs'.putF (i := 3) rfl [0, 1, 2, 3] [] rfl rfl rfl rfl)
         ·intro L a w hL hv
          rw [allTrue hL] at hv
          have hs := hv
          refine gZ hs [43, 13] [0, 1, 2, 3] [] rfl rfl rfl rfl ?_
          clear hs hL
          refine TA_step htb (by kernel_rfl) rfl rfl (OpT_assign rfl rfl rfl rfl) ?_
          refine TA_end rfl ?_
          refine tZ [13, 14] [0, 1, 2, 3] [] rfl rfl rfl rfl ?_
          refine Tk_seq (Tk_region (Tops_step rfl (OpT_move rfl rfl rfl rfl) ?_))
          refine Tops_step rfl (OpT_move rfl rfl rfl rfl) ?_
          refine Tops_step rfl (OpT_assign rfl rfl rfl rfl) ?_
          refine Tops_step rfl (OpT_assign rfl rfl rfl rfl) ?_
          refine Tops_step rfl (OpT_assign rfl rfl rfl rfl) ?_
          refine Tops_nil (tZ [8, 9, 10] [0, 1, 2, 3] [] rfl rfl rfl rfl ?_)
          obtain rfl := Option.some.inj h
          exact Tk_retV rfl rfl (resA (vs := [v11, vU8 does3.2.1, vI (0 : Int)]) rfl ⟨rfl, rfl, rfl, trivial⟩) [0, 1, 2, 3] [] rfl rfl rfl ⟨v11, v12, rfl, rfl, rfl⟩
        ·replace h := br_f hg7 h
         obtain ⟨hg8, h⟩ := chk_e h
         revert h
         obtain rfl : does1 = 45 := eq_of_beq hg8
         intro h
         refine TA_retire (i := 3) rfl ?_
         refine TA_vs (vs_subSl (l := (16 : Int)) (m := (len bytes1.1)) (i := 0) rfl hc1) ?_
         obtain ⟨does4, hx9, h⟩ := ob_e h
         refine TA_exP htb (by kernel_rfl) rfl rfl (OpT_callP [6, 7, 8, 3, 5, 9] (w_blk_kind_does_3 hx9) [4, 0, 1, 2] [1] rfl rfl rfl rfl rfl callee45 rfl rfl rfl rfl rfl) ?_
         rintro _ ⟨_, _, _, ⟨v13, rfl, rfl, rfl⟩, rfl⟩
         refine TA_step htb (by kernel_rfl) rfl rfl (OpT_move rfl rfl rfl rfl) ?_
         refine aZ [25] [0, 1, 2, 5] [] rfl rfl rfl rfl ?_
         refine TA_seg (lo := 17) (hi := 20) htb rfl rfl (by kernel_rfl) (fun c L a w => Sat c ⟨[(25, some (.tuple #[v13, vU8 does4.2])), (42, bif L 17 then some (v13) else none), (43, bif L 18 then some (vU8 does4.2) else none), (13, bif L 19 then some (v13) else none)], [(some (cellsR b_sp0 71 [vsp01, .map (some mb_sp0)]) : Option Res), (some (rowS secS vsp01 sp0.l) : Option Res), (some (mapR mb_sp0 .i64 (fun x : Int => x) vSec sp0.fresh) : Option Res), (some (rowS u8S v13 does4.1) : Option Res)], []⟩ a w) [([], [19]), ([], []), ([17], [])] rfl (by kernel_rfl) ?_ (steps_cons ?_ (steps_cons ?_ (steps_cons ?_ (steps_nil)))) ?_
         ·intro a w hs
          exact hs.startF [42, 43, 13] [0, 1, 2, 3] [] rfl rfl rfl rfl
         ·intro L a w hv K Q hK
          have hs := hv
          refine wpOp_go rfl rfl hs (OpT_extract rfl rfl rfl rfl rfl) ?_
          rintro _ rfl a' w' hs'
          exact hK a' w' (hs'.putF (i := 1) rfl [0, 1, 2, 3] [] rfl rfl rfl rfl)
         ·intro L a w hv K Q hK
          have hs := hv
          refine wpOp_go rfl rfl hs (OpT_extract rfl rfl rfl rfl rfl) ?_
          rintro _ rfl a' w' hs'
          exact hK a' w' (hs'.putF (i := 2) rfl [0, 1, 2, 3] [] rfl rfl rfl rfl)
         ·intro L a w hv K Q hK
          have hs := hv
          refine wpOp_go rfl rfl hs (OpT_assign rfl rfl rfl rfl) ?_
          rintro _ rfl a' w' hs'
          exact hK a' w' (hs'.putF (i := 3) rfl [0, 1, 2, 3] [] rfl rfl rfl rfl)
         ·intro L a w hL hv
          rw [allTrue hL] at hv
          have hs := hv
          refine gZ hs [43, 13] [0, 1, 2, 3] [] rfl rfl rfl rfl ?_
          clear hs hL
          refine TA_step htb (by kernel_rfl) rfl rfl (OpT_assign rfl rfl rfl rfl) ?_
          refine TA_end rfl ?_
          refine tZ [13, 14] [0, 1, 2, 3] [] rfl rfl rfl rfl ?_
          refine Tk_seq (Tk_region (Tops_step rfl (OpT_move rfl rfl rfl rfl) ?_))
          refine Tops_step rfl (OpT_move rfl rfl rfl rfl) ?_
          refine Tops_step rfl (OpT_assign rfl rfl rfl rfl) ?_
          refine Tops_step rfl (OpT_assign rfl rfl rfl rfl) ?_
          refine Tops_step rfl (OpT_assign rfl rfl rfl rfl) ?_
          refine Tops_nil (tZ [8, 9, 10] [0, 1, 2, 3] [] rfl rfl rfl rfl ?_)
          obtain rfl := Option.some.inj h
          exact Tk_retV rfl rfl (resA (vs := [v13, vU8 does4.2, vI (0 : Int)]) rfl ⟨rfl, rfl, rfl, trivial⟩) [0, 1, 2, 3] [] rfl rfl rfl ⟨v13, vsp01, rfl, rfl, rfl⟩
end Go.Proofs.Ytjfdamiilndgeaa
