/- The functions do what the plain words say: each is walked once. No statement of the seat is proved here; no condition. -/
import Derived.Test.YtjfdamiilndgeaaWa1
namespace Go.Proofs.Ytjfdamiilndgeaa
attribute [local irreducible] sub
set_option maxRecDepth 100000 in
set_option maxHeartbeats 4000000 in
theorem w_law21zlives  {r : Bool} (h : law21zlives = some r) :
  Ctr Try.prog 11 #[] [] []
   (fun rv own shr => rv = vB r ∧ own = [] ∧ shr = []) := by
 unfold law21zlives at h
 refine Ctr.mk (args := []) Try.func11 rfl rfl (fun R0 w0 B => ?_)
 refine Tk_seq (Tk_region (Tops_step rfl (OpT_assign rfl rfl rfl rfl) ?_))
 refine Tops_nil (tZ [] [] [] rfl rfl rfl rfl ?_)
 refine Tk_seq (Tk_region ?_)
 obtain ⟨new1, hx1, h⟩ := ob_e h
 refine Tops_exP rfl (OpT_call (w_sectors_New hx1) [] [] rfl rfl rfl rfl rfl callee7 rfl rfl rfl rfl) ?_
 rintro _ ⟨_, _, _, ⟨v1, rfl, rfl, rfl⟩, rfl⟩
 refine Tops_step rfl (OpT_move rfl rfl rfl rfl) ?_
 refine Tops_step rfl (OpT_extract rfl rfl rfl rfl rfl) ?_
 refine Tops_step rfl (OpT_extract rfl rfl rfl rfl rfl) ?_
 refine Tops_step rfl (OpT_assign rfl rfl rfl rfl) ?_
 refine Tops_step rfl (OpT_assign rfl rfl rfl rfl) ?_
 refine Tops_nil (tZ [1, 2] [0] [] rfl rfl rfl rfl ?_)
 rcases onO_cases h with ⟨ho1, h⟩ | ⟨store1, ho1, h⟩
 ·cases h
 ·refine Tk_optTS (i := 0) rfl ho1 ?_
  rintro b1 vs1 rfl
  refine Tk_vs (vs_star (i := 0) rfl) ?_
  refine Tk_vs (vs_star (i := 1) rfl) ?_
  refine (show Tk _ _ ⟨[(1, some (.pointer (some ⟨b1, 0, none⟩))), (2, some (vI new1.2))], [some (cellsR b1 71 [(vsAt vs1 0), (vsAt vs1 1)]), some (rowS secS (vsAt vs1 0) store1.l), some (mapRV .i64 (fun x : Int => x) vSec (vsAt vs1 1) store1.fresh)], []⟩ from ?_)
  refine Tk_openM (i := 2) rfl ?_
  rintro mb1 he1
  rw [he1]
  refine Tk_seq (Tk_seq (Tk_region (Tops_step rfl (OpT_move rfl rfl rfl rfl) ?_)))
  refine Tops_step rfl (OpT_bin rfl rfl rfl rfl rfl (bin_neq_i (a := new1.2) (b := (0 : Int)))) ?_
  refine Tops_nil (tZ [1, 23] [0, 1, 2] [] rfl rfl rfl rfl ?_)
  rcases Bool.eq_false_or_eq_true (new1.2 != (0 : Int)) with hg1 | hg1
  ·replace h := br_t hg1 h
   refine Tk_condT (congrArg (fun b => some (Value.bool b)) hg1) ?_
   refine Tk_seq (Tk_region (Tops_step rfl (OpT_assign rfl rfl rfl rfl) ?_))
   refine Tops_nil (tZ [0] [] [] rfl rfl rfl rfl ?_)
   obtain rfl := Option.some.inj h
   exact Tk_retV rfl rfl (resA (vs := [vB false]) rfl ⟨rfl, trivial⟩) [] [] rfl rfl rfl ⟨rfl, rfl, rfl⟩
  ·replace h := br_f hg1 h
   refine Tk_condF (congrArg (fun b => some (Value.bool b)) hg1) ?_
   refine Tk_skip (Tk_seq (Tk_region (Tops_step rfl (OpT_move rfl rfl rfl rfl) ?_)))
   refine Tops_step rfl (OpT_build (v := .agg #[vU32 (0 : UInt32), vU64 (7 : UInt64), .slice none 0 0, vI (512 : Int), .slice none 0 0]) rfl rfl rfl rfl (bldV (by kernel_rfl))) ?_
   refine Tops_nilfact u8S ?_
   refine Tops_nilfact RangeS ?_
   obtain ⟨apply1, hx2, h⟩ := ob_e h
   refine Tops_exP rfl (OpT_callP [3, 4, 5, 6] (w_blk_Apply hx2) [0, 1, 2] [0, 1] rfl rfl rfl rfl rfl callee10 rfl rfl rfl rfl rfl) ?_
   rintro _ ⟨_, _, _, ⟨v2, v3, rfl, rfl, rfl⟩, rfl⟩
   refine Tops_step rfl (OpT_move rfl rfl rfl rfl) ?_
   refine Tops_step rfl (OpT_extract rfl rfl rfl rfl rfl) ?_
   refine Tops_step rfl (OpT_extract rfl rfl rfl rfl rfl) ?_
   refine Tops_step rfl (OpT_extract rfl rfl rfl rfl rfl) ?_
   refine Tops_step rfl (OpT_assign rfl rfl rfl rfl) ?_
   refine Tops_step rfl (OpT_assign rfl rfl rfl rfl) ?_
   refine Tops_step rfl (OpT_assign rfl rfl rfl rfl) ?_
   refine Tops_nil (tZ [1, 3, 4, 5] [0, 1, 2, 3] [] rfl rfl rfl rfl ?_)
   refine Tk_seq (Tk_region (Tops_step rfl (OpT_move rfl rfl rfl rfl) ?_))
   refine Tops_step rfl (OpT_build (v := .agg #[vU32 (0 : UInt32), vU64 (8 : UInt64), .slice none 0 0, vI (512 : Int), .slice none 0 0]) rfl rfl rfl rfl (bldV (by kernel_rfl))) ?_
   refine Tops_nilfact u8S ?_
   refine Tops_nilfact RangeS ?_
   obtain ⟨apply2, hx3, h⟩ := ob_e h
   refine Tops_exP rfl (OpT_callP [4, 5, 6, 3, 7] (w_blk_Apply hx3) [0, 1, 2] [0, 1] rfl rfl rfl rfl rfl callee10 rfl rfl rfl rfl rfl) ?_
   rintro _ ⟨_, _, _, ⟨v4, v5, rfl, rfl, rfl⟩, rfl⟩
   refine Tops_step rfl (OpT_move rfl rfl rfl rfl) ?_
   refine Tops_step rfl (OpT_extract rfl rfl rfl rfl rfl) ?_
   refine Tops_step rfl (OpT_extract rfl rfl rfl rfl rfl) ?_
   refine Tops_step rfl (OpT_extract rfl rfl rfl rfl rfl) ?_
   refine Tops_step rfl (OpT_assign rfl rfl rfl rfl) ?_
   refine Tops_step rfl (OpT_assign rfl rfl rfl rfl) ?_
   refine Tops_step rfl (OpT_assign rfl rfl rfl rfl) ?_
   refine Tops_nil (tZ [1, 3, 4, 5, 6, 7, 8] [0, 1, 2, 3, 4] [] rfl rfl rfl rfl ?_)
   refine Tk_seq (Tk_region (Tops_step rfl (OpT_move rfl rfl rfl rfl) ?_))
   refine Tops_step rfl (OpT_build (v := .agg #[vU32 (4 : UInt32), vU64 (0 : UInt64), .slice none 0 0, vI (0 : Int), .slice none 0 0]) rfl rfl rfl rfl (bldV (by kernel_rfl))) ?_
   refine Tops_nilfact u8S ?_
   refine Tops_nilfact RangeS ?_
   obtain ⟨apply3, hx4, h⟩ := ob_e h
   refine Tops_exP rfl (OpT_callP [5, 6, 7, 3, 4, 8] (w_blk_Apply hx4) [0, 1, 2] [0, 1] rfl rfl rfl rfl rfl callee10 rfl rfl rfl rfl rfl) ?_
   rintro _ ⟨_, _, _, ⟨v6, v7, rfl, rfl, rfl⟩, rfl⟩
   refine Tops_step rfl (OpT_move rfl rfl rfl rfl) ?_
   refine Tops_step rfl (OpT_extract rfl rfl rfl rfl rfl) ?_
   refine Tops_step rfl (OpT_extract rfl rfl rfl rfl rfl) ?_
   refine Tops_step rfl (OpT_extract rfl rfl rfl rfl rfl) ?_
   refine Tops_step rfl (OpT_assign rfl rfl rfl rfl) ?_
   refine Tops_step rfl (OpT_assign rfl rfl rfl rfl) ?_
   refine Tops_step rfl (OpT_assign rfl rfl rfl rfl) ?_
   refine Tops_nil (tZ [1, 3, 4, 5, 6, 7, 8, 10] [0, 1, 2, 3, 4] [] rfl rfl rfl rfl ?_)
   refine Tk_seq (Tk_region (Tops_step rfl (OpT_move rfl rfl rfl rfl) ?_))
   obtain ⟨hc1, h⟩ := chk_e h
   obtain ⟨z1, hz1, h⟩ := lt_e h
   refine Tops_ex rfl (OpT_makeL (OpT_makeD u8S rfl (u := (0 : UInt8)) rfl rfl rfl rfl rfl slF26 rfl hc1) hz1) fun v8 => ?_
   refine Tops_step rfl (OpT_build1 (fun z0 => [(0, vU32 (1 : UInt32)), (2, z0)]) (fun z0 => [vU32 (1 : UInt32), vU64 (0 : UInt64), z0, vI (0 : Int), .slice none 0 0]) rfl rfl rfl rfl (is_row (i := 5) rfl) (by intros; kernel_rfl)) ?_
   refine Tops_retire (i := 5) rfl ?_
   refine Tops_nilfact RangeS ?_
   obtain ⟨apply4, hx5, h⟩ := ob_e h
   refine Tops_exP rfl (OpT_callP [6, 7, 8, 3, 4, 5, 9] (w_blk_Apply hx5) [0, 1, 2] [0, 1] rfl rfl rfl rfl rfl callee10 rfl rfl rfl rfl rfl) ?_
   rintro _ ⟨_, _, _, ⟨v9, v10, rfl, rfl, rfl⟩, rfl⟩
   refine Tops_step rfl (OpT_move rfl rfl rfl rfl) ?_
   refine Tops_step rfl (OpT_extract rfl rfl rfl rfl rfl) ?_
   refine Tops_step rfl (OpT_extract rfl rfl rfl rfl rfl) ?_
   refine Tops_step rfl (OpT_extract rfl rfl rfl rfl rfl) ?_
   refine Tops_step rfl (OpT_assign rfl rfl rfl rfl) ?_
   refine Tops_step rfl (OpT_assign rfl rfl rfl rfl) ?_
   refine Tops_step rfl (OpT_assign rfl rfl rfl rfl) ?_
   refine Tops_nil (tZ [1, 3, 4, 5, 6, 7, 8, 10, 13] [0, 1, 2, 3, 4] [] rfl rfl rfl rfl ?_)
   refine Tk_seq (Tk_region (Tops_step rfl (OpT_move rfl rfl rfl rfl) ?_))
   refine Tops_step rfl (OpT_build (v := .agg #[vU32 (5 : UInt32), vU64 (0 : UInt64), .slice none 0 0, vI (0 : Int), .slice none 0 0]) rfl rfl rfl rfl (bldV (by kernel_rfl))) ?_
   refine Tops_nilfact u8S ?_
   refine Tops_nilfact RangeS ?_
   obtain ⟨apply5, hx6, h⟩ := ob_e h
   refine Tops_exP rfl (OpT_callP [5, 6, 7, 3, 4, 8] (w_blk_Apply hx6) [0, 1, 2] [0, 1] rfl rfl rfl rfl rfl callee10 rfl rfl rfl rfl rfl) ?_
   rintro _ ⟨_, _, _, ⟨v11, v12, rfl, rfl, rfl⟩, rfl⟩
   refine Tops_step rfl (OpT_move rfl rfl rfl rfl) ?_
   refine Tops_step rfl (OpT_extract rfl rfl rfl rfl rfl) ?_
   refine Tops_step rfl (OpT_extract rfl rfl rfl rfl rfl) ?_
   refine Tops_step rfl (OpT_extract rfl rfl rfl rfl rfl) ?_
   refine Tops_step rfl (OpT_assign rfl rfl rfl rfl) ?_
   refine Tops_step rfl (OpT_assign rfl rfl rfl rfl) ?_
   refine Tops_step rfl (OpT_assign rfl rfl rfl rfl) ?_
   refine Tops_nil (tZ [3, 4, 5, 6, 7, 8, 10, 13, 16] [3, 4] [] rfl rfl rfl rfl ?_)
   refine Tk_seq (Tk_region (Tops_step rfl (OpT_move rfl rfl rfl rfl) ?_))
   refine Tops_step rfl (OpT_bin rfl rfl rfl rfl rfl (bin_eql_i (a := apply1.2.2.1) (b := (0 : Int)))) ?_
   refine Tops_step rfl (OpT_move rfl rfl rfl rfl) ?_
   rcases Bool.eq_false_or_eq_true (apply1.2.2.1 == (0 : Int)) with hg2 | hg2
   ·replace h := br_t hg2 h
    refine Tops_yes rfl rfl (congrArg (fun b => some (Value.bool b)) hg2) (OpT_move rfl rfl rfl rfl) ?_
    rintro _ rfl
    refine Tops_yes rfl rfl (congrArg (fun b => some (Value.bool b)) hg2) (OpT_bin rfl rfl rfl rfl rfl (bin_eql_i (a := apply2.2.2.1) (b := (0 : Int)))) ?_
    rintro _ rfl
    refine Tops_step rfl (OpT_pickT rfl rfl rfl (congrArg (fun b => some (Value.bool b)) hg2) rfl) ?_
    refine Tops_step rfl (OpT_move rfl rfl rfl rfl) ?_
    rcases Bool.eq_false_or_eq_true (apply2.2.2.1 == (0 : Int)) with hg3 | hg3
    ·replace h := br_t hg3 h
     refine Tops_yes rfl rfl (congrArg (fun b => some (Value.bool b)) hg3) (OpT_move rfl rfl rfl rfl) ?_
     rintro _ rfl
     refine Tops_yes rfl rfl (congrArg (fun b => some (Value.bool b)) hg3) (OpT_lenO rfl rfl rfl rfl Try.underlying26 (i := 0) rfl) ?_
     rintro _ rfl
     refine Tops_yes rfl rfl (congrArg (fun b => some (Value.bool b)) hg3) (OpT_bin rfl rfl rfl rfl rfl (bin_eql_i (a := len apply1.1) (b := (512 : Int)))) ?_
     rintro _ rfl
     refine Tops_step rfl (OpT_pickT rfl rfl rfl (congrArg (fun b => some (Value.bool b)) hg3) rfl) ?_
     refine Tops_step rfl (OpT_move rfl rfl rfl rfl) ?_
     rcases Bool.eq_false_or_eq_true ((len apply1.1) == (512 : Int)) with hg4 | hg4
     ·replace h := br_t hg4 h
      refine Tops_yes rfl rfl (congrArg (fun b => some (Value.bool b)) hg4) (OpT_move rfl rfl rfl rfl) ?_
      rintro _ rfl
      refine Tops_yes rfl rfl (congrArg (fun b => some (Value.bool b)) hg4) (OpT_bin rfl rfl rfl rfl rfl (bin_eql_u8 (a := apply1.2.1) (b := (0 : UInt8)))) ?_
      rintro _ rfl
      refine Tops_step rfl (OpT_pickT rfl rfl rfl (congrArg (fun b => some (Value.bool b)) hg4) rfl) ?_
      refine Tops_step rfl (OpT_move rfl rfl rfl rfl) ?_
      rcases Bool.eq_false_or_eq_true (apply1.2.1 == (0 : UInt8)) with hg5 | hg5
      ·replace h := br_t hg5 h
       refine Tops_yes rfl rfl (congrArg (fun b => some (Value.bool b)) hg5) (OpT_move rfl rfl rfl rfl) ?_
       rintro _ rfl
       refine Tops_yes rfl rfl (congrArg (fun b => some (Value.bool b)) hg5) (OpT_lenO rfl rfl rfl rfl Try.underlying26 (i := 1) rfl) ?_
       rintro _ rfl
       refine Tops_yes rfl rfl (congrArg (fun b => some (Value.bool b)) hg5) (OpT_bin rfl rfl rfl rfl rfl (bin_eql_i (a := len apply2.1) (b := (0 : Int)))) ?_
       rintro _ rfl
       refine Tops_step rfl (OpT_pickT rfl rfl rfl (congrArg (fun b => some (Value.bool b)) hg5) rfl) ?_
       refine Tops_step rfl (OpT_move rfl rfl rfl rfl) ?_
       rcases Bool.eq_false_or_eq_true ((len apply2.1) == (0 : Int)) with hg6 | hg6
       ·replace h := br_t hg6 h
        refine Tops_yes rfl rfl (congrArg (fun b => some (Value.bool b)) hg6) (OpT_move rfl rfl rfl rfl) ?_
        rintro _ rfl
        refine Tops_yes rfl rfl (congrArg (fun b => some (Value.bool b)) hg6) (OpT_bin rfl rfl rfl rfl rfl (bin_eql_u8 (a := apply2.2.1) (b := (1 : UInt8)))) ?_
        rintro _ rfl
        refine Tops_step rfl (OpT_pickT rfl rfl rfl (congrArg (fun b => some (Value.bool b)) hg6) rfl) ?_
        refine Tops_step rfl (OpT_move rfl rfl rfl rfl) ?_
        rcases Bool.eq_false_or_eq_true (apply2.2.1 == (1 : UInt8)) with hg7 | hg7
        ·replace h := br_t hg7 h
         refine Tops_yes rfl rfl (congrArg (fun b => some (Value.bool b)) hg7) (OpT_move rfl rfl rfl rfl) ?_
         rintro _ rfl
         refine Tops_yes rfl rfl (congrArg (fun b => some (Value.bool b)) hg7) (OpT_bin rfl rfl rfl rfl rfl (bin_eql_u8 (a := apply3.2.1) (b := (0 : UInt8)))) ?_
         rintro _ rfl
         refine Tops_step rfl (OpT_pickT rfl rfl rfl (congrArg (fun b => some (Value.bool b)) hg7) rfl) ?_
         refine Tops_step rfl (OpT_move rfl rfl rfl rfl) ?_
         rcases Bool.eq_false_or_eq_true (apply3.2.1 == (0 : UInt8)) with hg8 | hg8
         ·replace h := br_t hg8 h
          refine Tops_yes rfl rfl (congrArg (fun b => some (Value.bool b)) hg8) (OpT_move rfl rfl rfl rfl) ?_
          rintro _ rfl
          refine Tops_yes rfl rfl (congrArg (fun b => some (Value.bool b)) hg8) (OpT_bin rfl rfl rfl rfl rfl (bin_eql_u8 (a := apply4.2.1) (b := (1 : UInt8)))) ?_
          rintro _ rfl
          refine Tops_step rfl (OpT_pickT rfl rfl rfl (congrArg (fun b => some (Value.bool b)) hg8) rfl) ?_
          refine Tops_step rfl (OpT_move rfl rfl rfl rfl) ?_
          rcases Bool.eq_false_or_eq_true (apply4.2.1 == (1 : UInt8)) with hg9 | hg9
          ·replace h := br_t hg9 h
           refine Tops_yes rfl rfl (congrArg (fun b => some (Value.bool b)) hg9) (OpT_move rfl rfl rfl rfl) ?_
           rintro _ rfl
           refine Tops_yes rfl rfl (congrArg (fun b => some (Value.bool b)) hg9) (OpT_bin rfl rfl rfl rfl rfl (bin_eql_u8 (a := apply5.2.1) (b := (2 : UInt8)))) ?_
           rintro _ rfl
           refine Tops_step rfl (OpT_pickT rfl rfl rfl (congrArg (fun b => some (Value.bool b)) hg9) rfl) ?_
           refine Tops_step rfl (OpT_assign rfl rfl rfl rfl) ?_
           refine Tops_nil (tZ [0] [] [] rfl rfl rfl rfl ?_)
           obtain rfl := Option.some.inj h
           exact Tk_retV rfl rfl (resA (vs := [vB (apply5.2.1 == (2 : UInt8))]) rfl ⟨rfl, trivial⟩) [] [] rfl rfl rfl ⟨rfl, rfl, rfl⟩
          ·replace h := br_f hg9 h
           refine Tops_no rfl rfl (congrArg (fun b => some (Value.bool b)) hg9) rfl rfl ?_
           refine Tops_no rfl rfl (congrArg (fun b => some (Value.bool b)) hg9) rfl rfl ?_
           refine Tops_step rfl (OpT_pickF rfl rfl rfl (congrArg (fun b => some (Value.bool b)) hg9) rfl) ?_
           refine Tops_step rfl (OpT_assign rfl rfl rfl rfl) ?_
           refine Tops_nil (tZ [0] [] [] rfl rfl rfl rfl ?_)
           obtain rfl := Option.some.inj h
           exact Tk_retV rfl rfl (resA (vs := [vB false]) rfl ⟨rfl, trivial⟩) [] [] rfl rfl rfl ⟨rfl, rfl, rfl⟩
         ·replace h := br_f hg8 h
          refine Tops_no rfl rfl (congrArg (fun b => some (Value.bool b)) hg8) rfl rfl ?_
          refine Tops_no rfl rfl (congrArg (fun b => some (Value.bool b)) hg8) rfl rfl ?_
          refine Tops_step rfl (OpT_pickF rfl rfl rfl (congrArg (fun b => some (Value.bool b)) hg8) rfl) ?_
          refine Tops_step rfl (OpT_move rfl rfl rfl rfl) ?_
          refine Tops_no rfl rfl rfl rfl rfl ?_
          refine Tops_no rfl rfl rfl rfl rfl ?_
          refine Tops_step rfl (OpT_pickF rfl rfl rfl rfl rfl) ?_
          refine Tops_step rfl (OpT_assign rfl rfl rfl rfl) ?_
          refine Tops_nil (tZ [0] [] [] rfl rfl rfl rfl ?_)
          obtain rfl := Option.some.inj h
          exact Tk_retV rfl rfl (resA (vs := [vB false]) rfl ⟨rfl, trivial⟩) [] [] rfl rfl rfl ⟨rfl, rfl, rfl⟩
        ·replace h := br_f hg7 h
         refine Tops_no rfl rfl (congrArg (fun b => some (Value.bool b)) hg7) rfl rfl ?_
         refine Tops_no rfl rfl (congrArg (fun b => some (Value.bool b)) hg7) rfl rfl ?_
         refine Tops_step rfl (OpT_pickF rfl rfl rfl (congrArg (fun b => some (Value.bool b)) hg7) rfl) ?_
         refine Tops_step rfl (OpT_move rfl rfl rfl rfl) ?_
         refine Tops_no rfl rfl rfl rfl rfl ?_
         refine Tops_no rfl rfl rfl rfl rfl ?_
         refine Tops_step rfl (OpT_pickF rfl rfl rfl rfl rfl) ?_
         refine Tops_step rfl (OpT_move rfl rfl rfl rfl) ?_
         refine Tops_no rfl rfl rfl rfl rfl ?_
         refine Tops_no rfl rfl rfl rfl rfl ?_
         refine Tops_step rfl (OpT_pickF rfl rfl rfl rfl rfl) ?_
         refine Tops_step rfl (OpT_assign rfl rfl rfl rfl) ?_
         refine Tops_nil (tZ [0] [] [] rfl rfl rfl rfl ?_)
         obtain rfl := Option.some.inj h
         exact Tk_retV rfl rfl (resA (vs := [vB false]) rfl ⟨rfl, trivial⟩) [] [] rfl rfl rfl ⟨rfl, rfl, rfl⟩
       ·replace h := br_f hg6 h
        refine Tops_no rfl rfl (congrArg (fun b => some (Value.bool b)) hg6) rfl rfl ?_
        refine Tops_no rfl rfl (congrArg (fun b => some (Value.bool b)) hg6) rfl rfl ?_
        refine Tops_step rfl (OpT_pickF rfl rfl rfl (congrArg (fun b => some (Value.bool b)) hg6) rfl) ?_
        refine Tops_step rfl (OpT_move rfl rfl rfl rfl) ?_
        refine Tops_no rfl rfl rfl rfl rfl ?_
        refine Tops_no rfl rfl rfl rfl rfl ?_
        refine Tops_step rfl (OpT_pickF rfl rfl rfl rfl rfl) ?_
        refine Tops_step rfl (OpT_move rfl rfl rfl rfl) ?_
        refine Tops_no rfl rfl rfl rfl rfl ?_
        refine Tops_no rfl rfl rfl rfl rfl ?_
        refine Tops_step rfl (OpT_pickF rfl rfl rfl rfl rfl) ?_
        refine Tops_step rfl (OpT_move rfl rfl rfl rfl) ?_
        refine Tops_no rfl rfl rfl rfl rfl ?_
        refine Tops_no rfl rfl rfl rfl rfl ?_
        refine Tops_step rfl (OpT_pickF rfl rfl rfl rfl rfl) ?_
        refine Tops_step rfl (OpT_assign rfl rfl rfl rfl) ?_
        refine Tops_nil (tZ [0] [] [] rfl rfl rfl rfl ?_)
        obtain rfl := Option.some.inj h
        exact Tk_retV rfl rfl (resA (vs := [vB false]) rfl ⟨rfl, trivial⟩) [] [] rfl rfl rfl ⟨rfl, rfl, rfl⟩
      ·replace h := br_f hg5 h
       refine Tops_no rfl rfl (congrArg (fun b => some (Value.bool b)) hg5) rfl rfl ?_
       refine Tops_no rfl rfl (congrArg (fun b => some (Value.bool b)) hg5) rfl rfl ?_
       refine Tops_no rfl rfl (congrArg (fun b => some (Value.bool b)) hg5) rfl rfl ?_
       refine Tops_step rfl (OpT_pickF rfl rfl rfl (congrArg (fun b => some (Value.bool b)) hg5) rfl) ?_
       refine Tops_step rfl (OpT_move rfl rfl rfl rfl) ?_
       refine Tops_no rfl rfl rfl rfl rfl ?_
       refine Tops_no rfl rfl rfl rfl rfl ?_
       refine Tops_step rfl (OpT_pickF rfl rfl rfl rfl rfl) ?_
       refine Tops_step rfl (OpT_move rfl rfl rfl rfl) ?_
       refine Tops_no rfl rfl rfl rfl rfl ?_
       refine Tops_no rfl rfl rfl rfl rfl ?_
       refine Tops_step rfl (OpT_pickF rfl rfl rfl rfl rfl) ?_
       refine Tops_step rfl (OpT_move rfl rfl rfl rfl) ?_
       refine Tops_no rfl rfl rfl rfl rfl ?_
       refine Tops_no rfl rfl rfl rfl rfl ?_
       refine Tops_step rfl (OpT_pickF rfl rfl rfl rfl rfl) ?_
       refine Tops_step rfl (OpT_move rfl rfl rfl rfl) ?_
       refine Tops_no rfl rfl rfl rfl rfl ?_
       refine Tops_no rfl rfl rfl rfl rfl ?_
       refine Tops_step rfl (OpT_pickF rfl rfl rfl rfl rfl) ?_
       refine Tops_step rfl (OpT_assign rfl rfl rfl rfl) ?_
       refine Tops_nil (tZ [0] [] [] rfl rfl rfl rfl ?_)
       obtain rfl := Option.some.inj h
       exact Tk_retV rfl rfl (resA (vs := [vB false]) rfl ⟨rfl, trivial⟩) [] [] rfl rfl rfl ⟨rfl, rfl, rfl⟩
     ·replace h := br_f hg4 h
      refine Tops_no rfl rfl (congrArg (fun b => some (Value.bool b)) hg4) rfl rfl ?_
      refine Tops_no rfl rfl (congrArg (fun b => some (Value.bool b)) hg4) rfl rfl ?_
      refine Tops_step rfl (OpT_pickF rfl rfl rfl (congrArg (fun b => some (Value.bool b)) hg4) rfl) ?_
      refine Tops_step rfl (OpT_move rfl rfl rfl rfl) ?_
      refine Tops_no rfl rfl rfl rfl rfl ?_
      refine Tops_no rfl rfl rfl rfl rfl ?_
      refine Tops_no rfl rfl rfl rfl rfl ?_
      refine Tops_step rfl (OpT_pickF rfl rfl rfl rfl rfl) ?_
      refine Tops_step rfl (OpT_move rfl rfl rfl rfl) ?_
      refine Tops_no rfl rfl rfl rfl rfl ?_
      refine Tops_no rfl rfl rfl rfl rfl ?_
      refine Tops_step rfl (OpT_pickF rfl rfl rfl rfl rfl) ?_
      refine Tops_step rfl (OpT_move rfl rfl rfl rfl) ?_
      refine Tops_no rfl rfl rfl rfl rfl ?_
      refine Tops_no rfl rfl rfl rfl rfl ?_
      refine Tops_step rfl (OpT_pickF rfl rfl rfl rfl rfl) ?_
      refine Tops_step rfl (OpT_move rfl rfl rfl rfl) ?_
      refine Tops_no rfl rfl rfl rfl rfl ?_
      refine Tops_no rfl rfl rfl rfl rfl ?_
      refine Tops_step rfl (OpT_pickF rfl rfl rfl rfl rfl) ?_
      refine Tops_step rfl (OpT_move rfl rfl rfl rfl) ?_
      refine Tops_no rfl rfl rfl rfl rfl ?_
      refine Tops_no rfl rfl rfl rfl rfl ?_
      refine Tops_step rfl (OpT_pickF rfl rfl rfl rfl rfl) ?_
      refine Tops_step rfl (OpT_assign rfl rfl rfl rfl) ?_
      refine Tops_nil (tZ [0] [] [] rfl rfl rfl rfl ?_)
      obtain rfl := Option.some.inj h
      exact Tk_retV rfl rfl (resA (vs := [vB false]) rfl ⟨rfl, trivial⟩) [] [] rfl rfl rfl ⟨rfl, rfl, rfl⟩
    ·replace h := br_f hg3 h
     refine Tops_no rfl rfl (congrArg (fun b => some (Value.bool b)) hg3) rfl rfl ?_
     refine Tops_no rfl rfl (congrArg (fun b => some (Value.bool b)) hg3) rfl rfl ?_
     refine Tops_no rfl rfl (congrArg (fun b => some (Value.bool b)) hg3) rfl rfl ?_
     refine Tops_step rfl (OpT_pickF rfl rfl rfl (congrArg (fun b => some (Value.bool b)) hg3) rfl) ?_
     refine Tops_step rfl (OpT_move rfl rfl rfl rfl) ?_
     refine Tops_no rfl rfl rfl rfl rfl ?_
     refine Tops_no rfl rfl rfl rfl rfl ?_
     refine Tops_step rfl (OpT_pickF rfl rfl rfl rfl rfl) ?_
     refine Tops_step rfl (OpT_move rfl rfl rfl rfl) ?_
     refine Tops_no rfl rfl rfl rfl rfl ?_
     refine Tops_no rfl rfl rfl rfl rfl ?_
     refine Tops_no rfl rfl rfl rfl rfl ?_
     refine Tops_step rfl (OpT_pickF rfl rfl rfl rfl rfl) ?_
     refine Tops_step rfl (OpT_move rfl rfl rfl rfl) ?_
     refine Tops_no rfl rfl rfl rfl rfl ?_
     refine Tops_no rfl rfl rfl rfl rfl ?_
     refine Tops_step rfl (OpT_pickF rfl rfl rfl rfl rfl) ?_
     refine Tops_step rfl (OpT_move rfl rfl rfl rfl) ?_
     refine Tops_no rfl rfl rfl rfl rfl ?_
     refine Tops_no rfl rfl rfl rfl rfl ?_
     refine Tops_step rfl (OpT_pickF rfl rfl rfl rfl rfl) ?_
     refine Tops_step rfl (OpT_move rfl rfl rfl rfl) ?_
     refine Tops_no rfl rfl rfl rfl rfl ?_
     refine Tops_no rfl rfl rfl rfl rfl ?_
     refine Tops_step rfl (OpT_pickF rfl rfl rfl rfl rfl) ?_
     refine Tops_step rfl (OpT_move rfl rfl rfl rfl) ?_
     refine Tops_no rfl rfl rfl rfl rfl ?_
     refine Tops_no rfl rfl rfl rfl rfl ?_
     refine Tops_step rfl (OpT_pickF rfl rfl rfl rfl rfl) ?_
     refine Tops_step rfl (OpT_assign rfl rfl rfl rfl) ?_
     refine Tops_nil (tZ [0] [] [] rfl rfl rfl rfl ?_)
     obtain rfl := Option.some.inj h
     exact Tk_retV rfl rfl (resA (vs := [vB false]) rfl ⟨rfl, trivial⟩) [] [] rfl rfl rfl ⟨rfl, rfl, rfl⟩
   ·replace h := br_f hg2 h
    refine Tops_no rfl rfl (congrArg (fun b => some (Value.bool b)) hg2) rfl rfl ?_
    refine Tops_no rfl rfl (congrArg (fun b => some (Value.bool b)) hg2) rfl rfl ?_
    refine Tops_step rfl (OpT_pickF rfl rfl rfl (congrArg (fun b => some (Value.bool b)) hg2) rfl) ?_
    refine Tops_step rfl (OpT_move rfl rfl rfl rfl) ?_
    refine Tops_no rfl rfl rfl rfl rfl ?_
    refine Tops_no rfl rfl rfl rfl rfl ?_
    refine Tops_no rfl rfl rfl rfl rfl ?_
    refine Tops_step rfl (OpT_pickF rfl rfl rfl rfl rfl) ?_
    refine Tops_step rfl (OpT_move rfl rfl rfl rfl) ?_
    refine Tops_no rfl rfl rfl rfl rfl ?_
    refine Tops_no rfl rfl rfl rfl rfl ?_
    refine Tops_step rfl (OpT_pickF rfl rfl rfl rfl rfl) ?_
    refine Tops_step rfl (OpT_move rfl rfl rfl rfl) ?_
    refine Tops_no rfl rfl rfl rfl rfl ?_
    refine Tops_no rfl rfl rfl rfl rfl ?_
    refine Tops_no rfl rfl rfl rfl rfl ?_
    refine Tops_step rfl (OpT_pickF rfl rfl rfl rfl rfl) ?_
    refine Tops_step rfl (OpT_move rfl rfl rfl rfl) ?_
    refine Tops_no rfl rfl rfl rfl rfl ?_
    refine Tops_no rfl rfl rfl rfl rfl ?_
    refine Tops_step rfl (OpT_pickF rfl rfl rfl rfl rfl) ?_
    refine Tops_step rfl (OpT_move rfl rfl rfl rfl) ?_
    refine Tops_no rfl rfl rfl rfl rfl ?_
    refine Tops_no rfl rfl rfl rfl rfl ?_
    refine Tops_step rfl (OpT_pickF rfl rfl rfl rfl rfl) ?_
    refine Tops_step rfl (OpT_move rfl rfl rfl rfl) ?_
    refine Tops_no rfl rfl rfl rfl rfl ?_
    refine Tops_no rfl rfl rfl rfl rfl ?_
    refine Tops_step rfl (OpT_pickF rfl rfl rfl rfl rfl) ?_
    refine Tops_step rfl (OpT_move rfl rfl rfl rfl) ?_
    refine Tops_no rfl rfl rfl rfl rfl ?_
    refine Tops_no rfl rfl rfl rfl rfl ?_
    refine Tops_step rfl (OpT_pickF rfl rfl rfl rfl rfl) ?_
    refine Tops_step rfl (OpT_assign rfl rfl rfl rfl) ?_
    refine Tops_nil (tZ [0] [] [] rfl rfl rfl rfl ?_)
    obtain rfl := Option.some.inj h
    exact Tk_retV rfl rfl (resA (vs := [vB false]) rfl ⟨rfl, trivial⟩) [] [] rfl rfl rfl ⟨rfl, rfl, rfl⟩

set_option maxRecDepth 100000 in
set_option maxHeartbeats 4000000 in
theorem w_kit_LightReq {rp0 : Req} {most : Int} {vrp01 : Value} {vrp02 : Value} {r : Bool} (h : kit_LightReq rp0 most = some r) :
  Ctr Try.prog 12 #[.agg #[vU32 rp0.Type_, vU64 rp0.Sector, vrp01, vI rp0.Room, vrp02], vI most] [] [Fact.sl u8S vrp01 rp0.Data, Fact.sl RangeS vrp02 rp0.Ranges]
   (fun rv own shr => rv = vB r ∧ own = [] ∧ shr = []) := by
 unfold kit_LightReq at h
 refine Ctr.mk (args := [.agg #[vU32 rp0.Type_, vU64 rp0.Sector, vrp01, vI rp0.Room, vrp02], vI most]) Try.func12 rfl rfl (fun R0 w0 B => ?_)
 refine Tk_seq (Tk_region (Tops_ex rfl (OpT_box rfl rfl rfl rfl) fun b1 => ?_))
 refine Tops_step rfl (OpT_assign rfl rfl rfl rfl) ?_
 refine Tops_nil (tZ [1, 2] [0] [0, 1] rfl rfl rfl rfl ?_)
 refine Tk_seq (Tk_region (Tops_step rfl (OpT_fieldC rfl rfl rfl rfl fldF35x2) ?_))
 refine Tops_step rfl (OpT_loadC rfl rfl rfl rfl tyF26 (i := 0) rfl rfl) ?_
 refine Tops_step rfl (OpT_lenS rfl rfl rfl rfl Try.underlying26 (i := 0) rfl) ?_
 refine Tops_step rfl (OpT_move rfl rfl rfl rfl) ?_
 refine Tops_step rfl (OpT_bin rfl rfl rfl rfl rfl (bin_leq_i (a := len rp0.Data) (b := most))) ?_
 refine Tops_step rfl (OpT_move rfl rfl rfl rfl) ?_
 rcases Bool.eq_false_or_eq_true (decide ((len rp0.Data) ≤ most)) with hg1 | hg1
 ·replace h := br_t hg1 h
  refine Tops_yes rfl rfl (congrArg (fun b => some (Value.bool b)) hg1) (OpT_fieldC rfl rfl rfl rfl fldF35x4) ?_
  rintro _ rfl
  refine Tops_yes rfl rfl (congrArg (fun b => some (Value.bool b)) hg1) (OpT_loadC rfl rfl rfl rfl tyF33 (i := 0) rfl rfl) ?_
  rintro _ rfl
  refine Tops_yes rfl rfl (congrArg (fun b => some (Value.bool b)) hg1) (OpT_lenS rfl rfl rfl rfl Try.underlying33 (i := 1) rfl) ?_
  rintro _ rfl
  refine Tops_yes rfl rfl (congrArg (fun b => some (Value.bool b)) hg1) (OpT_bin rfl rfl rfl rfl rfl (bin_leq_i (a := len rp0.Ranges) (b := (40 : Int)))) ?_
  rintro _ rfl
  refine Tops_step rfl (OpT_pickT rfl rfl rfl (congrArg (fun b => some (Value.bool b)) hg1) rfl) ?_
  refine Tops_step rfl (OpT_move rfl rfl rfl rfl) ?_
  rcases Bool.eq_false_or_eq_true (decide ((len rp0.Ranges) ≤ (40 : Int))) with hg2 | hg2
  ·replace h := br_t hg2 h
   refine Tops_yes rfl rfl (congrArg (fun b => some (Value.bool b)) hg2) (OpT_fieldC rfl rfl rfl rfl fldF35x3) ?_
   rintro _ rfl
   refine Tops_yes rfl rfl (congrArg (fun b => some (Value.bool b)) hg2) (OpT_loadC rfl rfl rfl rfl tyF3 (i := 0) rfl rfl) ?_
   rintro _ rfl
   refine Tops_yes rfl rfl (congrArg (fun b => some (Value.bool b)) hg2) (OpT_move rfl rfl rfl rfl) ?_
   rintro _ rfl
   refine Tops_yes rfl rfl (congrArg (fun b => some (Value.bool b)) hg2) (OpT_bin rfl rfl rfl rfl rfl (bin_leq_i (a := rp0.Room) (b := most))) ?_
   rintro _ rfl
   refine Tops_step rfl (OpT_pickT rfl rfl rfl (congrArg (fun b => some (Value.bool b)) hg2) rfl) ?_
   refine Tops_step rfl (OpT_assign rfl rfl rfl rfl) ?_
   refine Tops_nil (tZ [4] [] [] rfl rfl rfl rfl ?_)
   obtain rfl := Option.some.inj h
   exact Tk_retV rfl rfl (resA (vs := [vB (decide (rp0.Room ≤ most))]) rfl ⟨rfl, trivial⟩) [] [] rfl rfl rfl ⟨rfl, rfl, rfl⟩
  ·replace h := br_f hg2 h
   refine Tops_no rfl rfl (congrArg (fun b => some (Value.bool b)) hg2) rfl rfl ?_
   refine Tops_no rfl rfl (congrArg (fun b => some (Value.bool b)) hg2) rfl rfl ?_
   refine Tops_no rfl rfl (congrArg (fun b => some (Value.bool b)) hg2) rfl rfl ?_
   refine Tops_no rfl rfl (congrArg (fun b => some (Value.bool b)) hg2) rfl rfl ?_
   refine Tops_step rfl (OpT_pickF rfl rfl rfl (congrArg (fun b => some (Value.bool b)) hg2) rfl) ?_
   refine Tops_step rfl (OpT_assign rfl rfl rfl rfl) ?_
   refine Tops_nil (tZ [4] [] [] rfl rfl rfl rfl ?_)
   obtain rfl := Option.some.inj h
   exact Tk_retV rfl rfl (resA (vs := [vB false]) rfl ⟨rfl, trivial⟩) [] [] rfl rfl rfl ⟨rfl, rfl, rfl⟩
 ·replace h := br_f hg1 h
  refine Tops_no rfl rfl (congrArg (fun b => some (Value.bool b)) hg1) rfl rfl ?_
  refine Tops_no rfl rfl (congrArg (fun b => some (Value.bool b)) hg1) rfl rfl ?_
  refine Tops_no rfl rfl (congrArg (fun b => some (Value.bool b)) hg1) rfl rfl ?_
  refine Tops_no rfl rfl (congrArg (fun b => some (Value.bool b)) hg1) rfl rfl ?_
  refine Tops_step rfl (OpT_pickF rfl rfl rfl (congrArg (fun b => some (Value.bool b)) hg1) rfl) ?_
  refine Tops_step rfl (OpT_move rfl rfl rfl rfl) ?_
  refine Tops_no rfl rfl rfl rfl rfl ?_
  refine Tops_no rfl rfl rfl rfl rfl ?_
  refine Tops_no rfl rfl rfl rfl rfl ?_
  refine Tops_no rfl rfl rfl rfl rfl ?_
  refine Tops_step rfl (OpT_pickF rfl rfl rfl rfl rfl) ?_
  refine Tops_step rfl (OpT_assign rfl rfl rfl rfl) ?_
  refine Tops_nil (tZ [4] [] [] rfl rfl rfl rfl ?_)
  obtain rfl := Option.some.inj h
  exact Tk_retV rfl rfl (resA (vs := [vB false]) rfl ⟨rfl, trivial⟩) [] [] rfl rfl rfl ⟨rfl, rfl, rfl⟩

set_option maxRecDepth 100000 in
set_option maxHeartbeats 4000000 in
theorem w_kit_Own {b : List UInt8} {vb1 : Value} {r : (List UInt8)} (h : kit_Own b = some r) :
  Ctr Try.prog 14 #[vb1] [] [Fact.sl u8S vb1 b]
   (fun rv own shr => ∃ (w1 : Value), rv = w1 ∧ own = [(rowS u8S w1 r)] ∧ shr = []) := by
 unfold kit_Own at h
 refine Ctr.mk (args := [vb1]) Try.func14 rfl rfl (fun R0 w0 B => ?_)
 refine Tk_seq (Tk_region (Tops_step rfl (OpT_assign rfl rfl rfl rfl) ?_))
 refine Tops_nil (tZ [0] [] [0] rfl rfl rfl rfl ?_)
 refine Tk_seq (Tk_region (Tops_ex rfl (OpT_buildSlice (S := u8S) (xs := ([] : List UInt8)) (css := []) (cs := []) (e := 5) rfl rfl rfl rfl (bldF slF26 (by decide) (by kernel_rfl)) rfl rfl rfl rfl (rel_plainD (S := u8S) (xs := ([] : List UInt8)) (css := []) rfl rfl)) fun v1 => ?_))
 refine Tops_step rfl (OpT_move rfl rfl rfl rfl) ?_
 obtain ⟨hc1, h⟩ := chk_e h
 refine Tops_ex rfl (OpT_append rfl rfl rfl rfl rfl slF26 (i := 0) (j := 0) rfl rfl hc1) fun v2 => ?_
 refine Tops_step rfl (OpT_assign rfl rfl rfl rfl) ?_
 refine Tops_nil (tZ [2] [0] [] rfl rfl rfl rfl ?_)
 obtain rfl := Option.some.inj h
 exact Tk_retV rfl rfl (resA (vs := [v2]) rfl ⟨rfl, trivial⟩) [0] [] rfl rfl rfl ⟨v2, rfl, rfl, rfl⟩

set_option maxRecDepth 100000 in
set_option maxHeartbeats 4000000 in
theorem w_sectors_Of {b : List UInt8} {vb1 : Value} {r : ((Option sectors_Store) × Int)} (h : sectors_Of b = some r) :
  Ctr Try.prog 15 #[vb1] [] [Fact.sl u8S vb1 b]
   (fun rv own shr => ∃ (w1 : Value), rv = .tuple #[w1, vI r.2] ∧ own = [(optT tsectors_Store w1 r.1)] ∧ shr = []) := by
 unfold sectors_Of at h
 refine Ctr.mk (args := [vb1]) Try.func15 rfl rfl (fun R0 w0 B => ?_)
 refine Tk_seq (Tk_region (Tops_step rfl (OpT_assign rfl rfl rfl rfl) ?_))
 refine Tops_step rfl (OpT_assign rfl rfl rfl rfl) ?_
 refine Tops_nil (tZ [0] [] [0] rfl rfl rfl rfl ?_)
 refine Tk_seq (Tk_seq (Tk_region (Tops_step rfl (OpT_move rfl rfl rfl rfl) ?_)))
 refine Tops_step rfl (OpT_lenS rfl rfl rfl rfl Try.underlying26 (i := 0) rfl) ?_
 refine Tops_step rfl (OpT_bin rfl rfl rfl rfl rfl (bin_rem_i (a := len b) (b := (512 : Int)) rfl)) ?_
 refine Tops_step rfl (OpT_bin rfl rfl rfl rfl rfl (bin_neq_i (a := remi (len b) (512 : Int)) (b := (0 : Int)))) ?_
 refine Tops_nil (tZ [0, 10] [] [0] rfl rfl rfl rfl ?_)
 rcases Bool.eq_false_or_eq_true ((remi (len b) (512 : Int)) != (0 : Int)) with hg1 | hg1
 ·replace h := br_t hg1 h
  refine Tk_condT (congrArg (fun b => some (Value.bool b)) hg1) ?_
  refine Tk_seq (Tk_region (Tops_step rfl (OpT_assign rfl rfl rfl rfl) ?_))
  refine Tops_step rfl (OpT_assign rfl rfl rfl rfl) ?_
  refine Tops_nil (tZ [2, 3] [] [] rfl rfl rfl rfl ?_)
  refine Tk_nilT tsectors_Store ?_
  obtain rfl := Option.some.inj h
  exact Tk_retV rfl rfl (resA (vs := [.pointer none, vI (2 : Int)]) rfl ⟨rfl, rfl, trivial⟩) [0] [] rfl rfl rfl ⟨(.pointer none), rfl, rfl, rfl⟩
 ·replace h := br_f hg1 h
  refine Tk_condF (congrArg (fun b => some (Value.bool b)) hg1) ?_
  refine Tk_skip (Tk_seq (Tk_region (Tops_step rfl (OpT_move rfl rfl rfl rfl) ?_)))
  refine Tops_step rfl (OpT_lenS rfl rfl rfl rfl Try.underlying26 (i := 0) rfl) ?_
  refine Tops_step rfl (OpT_bin rfl rfl rfl rfl rfl (bin_quo_i (a := len b) (b := (512 : Int)) rfl)) ?_
  obtain ⟨new1, hx1, h⟩ := ob_e h
  refine Tops_exP rfl (OpT_call (w_sectors_New hx1) [] [] rfl rfl rfl rfl rfl callee7 rfl rfl rfl rfl) ?_
  rintro _ ⟨_, _, _, ⟨v1, rfl, rfl, rfl⟩, rfl⟩
  refine Tops_step rfl (OpT_move rfl rfl rfl rfl) ?_
  refine Tops_step rfl (OpT_extract rfl rfl rfl rfl rfl) ?_
  refine Tops_step rfl (OpT_extract rfl rfl rfl rfl rfl) ?_
  refine Tops_step rfl (OpT_assign rfl rfl rfl rfl) ?_
  refine Tops_step rfl (OpT_assign rfl rfl rfl rfl) ?_
  refine Tops_nil (tZ [0, 4, 5] [0] [0] rfl rfl rfl rfl ?_)
  rcases onO_cases h with ⟨ho1, h⟩ | ⟨store1, ho1, h⟩
  ·refine Tk_optTN (i := 0) rfl ho1 ?_
   rintro rfl
   refine Tk_seq (Tk_seq (Tk_region (Tops_step rfl (OpT_move rfl rfl rfl rfl) ?_)))
   refine Tops_step rfl (OpT_bin rfl rfl rfl rfl rfl (bin_neq_i (a := new1.2) (b := (0 : Int)))) ?_
   refine Tops_nil (tZ [0, 4, 5, 19] [] [0] rfl rfl rfl rfl ?_)
   obtain ⟨hg2, h⟩ := chk_e h
   refine Tk_condT (congrArg (fun b => some (Value.bool b)) hg2) ?_
   refine Tk_seq (Tk_region (Tops_step rfl (OpT_move rfl rfl rfl rfl) ?_))
   refine Tops_step rfl (OpT_assign rfl rfl rfl rfl) ?_
   refine Tops_step rfl (OpT_assign rfl rfl rfl rfl) ?_
   refine Tops_nil (tZ [2, 3] [] [] rfl rfl rfl rfl ?_)
   refine Tk_nilT tsectors_Store ?_
   obtain rfl := Option.some.inj h
   exact Tk_retV rfl rfl (resA (vs := [.pointer none, vI new1.2]) rfl ⟨rfl, rfl, trivial⟩) [0] [] rfl rfl rfl ⟨(.pointer none), rfl, rfl, rfl⟩
  ·refine Tk_optTS (i := 0) rfl ho1 ?_
   rintro b1 vs1 rfl
   refine Tk_vs (vs_star (i := 0) rfl) ?_
   refine Tk_vs (vs_star (i := 1) rfl) ?_
   refine (show Tk _ _ ⟨[(0, some (vb1)), (4, some (.pointer (some ⟨b1, 0, none⟩))), (5, some (vI new1.2))], [some (cellsR b1 71 [(vsAt vs1 0), (vsAt vs1 1)]), some (rowS secS (vsAt vs1 0) store1.l), some (mapRV .i64 (fun x : Int => x) vSec (vsAt vs1 1) store1.fresh)], [Fact.sl u8S vb1 b]⟩ from ?_)
   refine Tk_openM (i := 2) rfl ?_
   rintro mb1 he1
   rw [he1]
   refine Tk_seq (Tk_seq (Tk_region (Tops_step rfl (OpT_move rfl rfl rfl rfl) ?_)))
   refine Tops_step rfl (OpT_bin rfl rfl rfl rfl rfl (bin_neq_i (a := new1.2) (b := (0 : Int)))) ?_
   refine Tops_nil (tZ [0, 4, 5, 19] [0, 1, 2] [0] rfl rfl rfl rfl ?_)
   rcases Bool.eq_false_or_eq_true (new1.2 != (0 : Int)) with hg3 | hg3
   ·replace h := br_t hg3 h
    refine Tk_condT (congrArg (fun b => some (Value.bool b)) hg3) ?_
    refine Tk_seq (Tk_region (Tops_step rfl (OpT_move rfl rfl rfl rfl) ?_))
    refine Tops_step rfl (OpT_assign rfl rfl rfl rfl) ?_
    refine Tops_step rfl (OpT_assign rfl rfl rfl rfl) ?_
    refine Tops_nil (tZ [2, 3] [] [] rfl rfl rfl rfl ?_)
    refine Tk_nilT tsectors_Store ?_
    obtain rfl := Option.some.inj h
    exact Tk_retV rfl rfl (resA (vs := [.pointer none, vI new1.2]) rfl ⟨rfl, rfl, trivial⟩) [0] [] rfl rfl rfl ⟨(.pointer none), rfl, rfl, rfl⟩
   ·replace h := br_f hg3 h
    refine Tk_condF (congrArg (fun b => some (Value.bool b)) hg3) ?_
    refine Tk_skip (Tk_seq (Tk_seq (Tk_region (Tops_step rfl (OpT_move rfl rfl rfl rfl) ?_))))
    refine Tops_step rfl (OpT_nilCheckP rfl rfl rfl rfl) ?_
    refine Tops_step rfl (OpT_fieldC rfl rfl rfl rfl fldF71x0) ?_
    refine Tops_step rfl (OpT_loadC rfl rfl rfl rfl tyF68 (i := 0) rfl rfl) ?_
    refine Tops_step rfl (OpT_lenO rfl rfl rfl rfl Try.underlying68 (i := 1) rfl) ?_
    refine Tops_step rfl (OpT_move rfl rfl rfl rfl) ?_
    refine Tops_nil (tZ [0, 4, 25, 26] [0, 1, 2] [0] rfl rfl rfl rfl ?_)
    refine Tk_block (Tk_loopS (σ := (List Sec) × (List (Int × Sec)) × Int × Value) [0, 4, 25, 26] [0, 1, 2] [0] (fun s => ⟨[(0, some (vb1)), (4, some (.pointer (some ⟨b1, 0, none⟩))), (25, some (vI (len store1.l))), (26, some (vI s.2.2.1))], [some (cellsR b1 71 [s.2.2.2, .map (some mb1)]), some (rowS secS s.2.2.2 s.1), some (mapR mb1 .i64 (fun x : Int => x) vSec s.2.1)], [Fact.sl u8S vb1 b]⟩) (fun nf1 s => sectors_OfL1 b store1 nf1 s.1 s.2.1 s.2.2.1 = some r) fuel (store1.l, store1.fresh, (0 : Int), (vsAt vs1 0)) h rfl rfl rfl rfl rfl (fun s h => by cases h) ?_)
    rintro nf1 ⟨l1, map1, x1, v2⟩ h
    replace h : sectors_OfL1B b store1 (sectors_OfL1 b store1 nf1) l1 map1 x1 = some r := h
    unfold sectors_OfL1B at h
    refine Tk_seq (Tk_region (Tops_step rfl (OpT_bin rfl rfl rfl rfl rfl (bin_lss_i (a := x1) (b := len store1.l))) ?_))
    refine Tops_nil (Tk_seq ?_)
    rcases Bool.eq_false_or_eq_true (decide (x1 < (len store1.l))) with hg4 | hg4
    ·replace h := br_t hg4 h
     refine Tk_condT (congrArg (fun b => some (Value.bool b)) hg4) ?_
     refine Tk_skip (Tk_seq (Tk_block (Tk_seq (Tk_region (Tops_step rfl (OpT_move rfl rfl rfl rfl) ?_)))))
     refine Tops_step rfl (OpT_assign rfl rfl rfl rfl) ?_
     refine Tops_nil (tZ [0, 4, 25, 26, 6] [0, 1, 2] [0] rfl rfl rfl rfl ?_)
     refine Tk_drawT (by kernel_rfl) ?_
     refine TA_tb [0, 1, 3, 7, 0, 31, 63, 0, 0, 256, 896, 2047] (by kernel_rfl) fun htb => ?_
     obtain ⟨s1, hx2, h⟩ := ob_e h
     obtain ⟨hc1, h⟩ := chk_e h
     refine TA_seg (lo := 0) (hi := 11) htb rfl rfl (by kernel_rfl) (fun c L a w => ∃ (v3 : Value), Sat c ⟨[(0, some (vb1)), (4, some (.pointer (some ⟨b1, 0, none⟩))), (25, some (vI (len store1.l))), (26, some (vI x1)), (6, some (vI x1)), (29, bif L 0 then some (.pointer (some ⟨b1, 0, none⟩)) else none), (30, bif L 1 then some (.pointer (some ⟨b1, 0, none⟩)) else none), (31, bif L 2 then some (.pointer (some ⟨b1, 0, none⟩)) else none), (32, bif L 3 then some (v2) else none), (33, bif L 4 then some (vI x1) else none), (34, bif L 5 then some (rowPtr v2 (Int.toNat x1 * 512)) else none), (35, bif L 6 then some (rowSl v2 (Int.toNat x1 * 512) 512) else none), (36, bif L 7 then some (vb1) else none), (37, bif L 8 then some (vI x1) else none), (38, bif L 9 then some (vI (wi (x1 * (512 : Int)))) else none), (39, bif L 10 then some (v3) else none)], [(some (cellsR b1 71 [v2, .map (some mb1)]) : Option Res), (some (rowS secS v2 l1) : Option Res), (some (mapR mb1 .i64 (fun x : Int => x) vSec map1) : Option Res)], [Fact.sl u8S vb1 b, (bif L 10 then Fact.sl u8S v3 (sub b (wi (x1 * (512 : Int))) (len b)) else Fact.tt)]⟩ a w) [([], [1, 2, 3, 5, 6]), ([0], [2, 3, 5, 6]), ([0, 1], [3, 5, 6]), ([0, 1, 2], [5, 6]), ([], [5, 6]), ([0, 1, 2, 3, 4], [6]), ([0, 1, 2, 3, 4, 5], []), ([], [10]), ([], [9, 10]), ([8], [10]), ([7, 8, 9], [])] rfl (by kernel_rfl) ?_ (steps_cons ?_ (steps_cons ?_ (steps_cons ?_ (steps_cons ?_ (steps_cons ?_ (steps_cons ?_ (steps_cons ?_ (steps_cons ?_ (steps_cons ?_ (steps_cons ?_ (steps_cons ?_ (steps_nil)))))))))))) ?_
     ·intro a w hs
      exact ⟨undef, hs.startF [29, 30, 31, 32, 33, 34, 35, 36, 37, 38, 39] [0, 1, 2] [0, 1] rfl rfl rfl rfl⟩
     ·intro L a w hv K Q hK
      obtain ⟨v3, hs⟩ := hv
      refine wpOp_go rfl rfl hs (OpT_move rfl rfl rfl rfl) ?_
      rintro _ rfl a' w' hs'
      exact hK a' w' ⟨v3, hs'.putF (i := 5) rfl [0, 1, 2] [0, 1] rfl rfl rfl rfl⟩
     ·intro L a w hv K Q hK
      obtain ⟨v3, hs⟩ := hv
      refine wpOp_go rfl rfl hs (OpT_nilCheckP rfl rfl rfl rfl) ?_
      rintro _ rfl a' w' hs'
      exact hK a' w' ⟨v3, hs'.putF (i := 6) rfl [0, 1, 2] [0, 1] rfl rfl rfl rfl⟩
     ·intro L a w hv K Q hK
      obtain ⟨v3, hs⟩ := hv
      refine wpOp_go rfl rfl hs (OpT_fieldC rfl rfl rfl rfl fldF71x0) ?_
      rintro _ rfl a' w' hs'
      exact hK a' w' ⟨v3, hs'.putF (i := 7) rfl [0, 1, 2] [0, 1] rfl rfl rfl rfl⟩
     ·intro L a w hv K Q hK
      obtain ⟨v3, hs⟩ := hv
      refine wpOp_go rfl rfl hs (OpT_loadC rfl rfl rfl rfl tyF68 (i := 0) rfl rfl) ?_
      rintro _ rfl a' w' hs'
      exact hK a' w' ⟨v3, hs'.putF (i := 8) rfl [0, 1, 2] [0, 1] rfl rfl rfl rfl⟩
     ·intro L a w hv K Q hK
      obtain ⟨v3, hs⟩ := hv
      refine wpOp_go rfl rfl hs (OpT_move rfl rfl rfl rfl) ?_
      rintro _ rfl a' w' hs'
      exact hK a' w' ⟨v3, hs'.putF (i := 9) rfl [0, 1, 2] [0, 1] rfl rfl rfl rfl⟩
     ·intro L a w hv K Q hK
      obtain ⟨v3, hs⟩ := hv
      refine wpOp_go rfl rfl hs (OpT_idxO rfl rfl rfl rfl rfl slF68 (i := 1) rfl hx2) ?_
      rintro _ rfl a' w' hs'
      exact hK a' w' ⟨v3, hs'.putF (i := 10) rfl [0, 1, 2] [0, 1] rfl rfl rfl rfl⟩
     ·intro L a w hv K Q hK
      obtain ⟨v3, hs⟩ := hv
      refine wpOp_go rfl rfl hs (OpT_sliceElt rfl rfl rfl rfl arrF83 (i := 1) rfl hx2) ?_
      rintro _ rfl a' w' hs'
      exact hK a' w' ⟨v3, hs'.putF (i := 11) rfl [0, 1, 2] [0, 1] rfl rfl rfl rfl⟩
     ·intro L a w hv K Q hK
      obtain ⟨v3, hs⟩ := hv
      refine wpOp_go rfl rfl hs (OpT_move rfl rfl rfl rfl) ?_
      rintro _ rfl a' w' hs'
      exact hK a' w' ⟨v3, hs'.putF (i := 12) rfl [0, 1, 2] [0, 1] rfl rfl rfl rfl⟩
     ·intro L a w hv K Q hK
      obtain ⟨v3, hs⟩ := hv
      refine wpOp_go rfl rfl hs (OpT_move rfl rfl rfl rfl) ?_
      rintro _ rfl a' w' hs'
      exact hK a' w' ⟨v3, hs'.putF (i := 13) rfl [0, 1, 2] [0, 1] rfl rfl rfl rfl⟩
     ·intro L a w hv K Q hK
      obtain ⟨v3, hs⟩ := hv
      refine wpOp_go rfl rfl hs (OpT_bin rfl rfl rfl rfl rfl (bin_mul_i (a := x1) (b := (512 : Int)))) ?_
      rintro _ rfl a' w' hs'
      exact hK a' w' ⟨v3, hs'.putF (i := 14) rfl [0, 1, 2] [0, 1] rfl rfl rfl rfl⟩
     ·intro L a w hv K Q hK
      obtain ⟨v3, hs⟩ := hv
      refine wpOp_go rfl rfl hs (OpT_sliceL (l := wi (x1 * (512 : Int))) rfl rfl rfl rfl rfl slF26 (i := 0) rfl hc1) ?_
      rintro _ ⟨v3', rfl⟩ a' w' hs'
      exact hK a' w' ⟨v3', hs'.putF (i := 15) rfl [0, 1, 2] [0, 2] rfl rfl rfl rfl⟩
     ·intro L a w hL hv
      rw [allTrue hL] at hv
      obtain ⟨v3, hs⟩ := hv
      refine gZ hs [0, 4, 25, 26, 35, 39] [0, 1, 2] [0, 1] rfl rfl rfl rfl ?_
      clear hs hL
      refine TA_step htb (by kernel_rfl) rfl rfl (OpT_copyE rfl rfl rfl rfl rfl slF26 (i := 1) (j := 1) rfl hx2 rfl) ?_
      refine TA_end rfl ?_
      refine tZ [0, 4, 25, 26] [0, 1, 2] [0] rfl rfl rfl rfl ?_
      refine Tk_blk (Tk_region (Tops_step rfl (OpT_bin rfl rfl rfl rfl rfl (bin_add_i (a := x1) (b := (1 : Int)))) ?_))
      refine Tops_step rfl (OpT_move rfl rfl rfl rfl) ?_
      refine Tops_nil (tZ [0, 4, 25, 26] [0, 1, 2] [0] rfl rfl rfl rfl ?_)
      exact Tk_backS (l1.set (Int.toNat x1) (Sec.put s1 (sub b (wi (x1 * (512 : Int))) (len b))), map1, wi (x1 + (1 : Int)), v2) h [0, 4, 25, 26] [0, 1, 2] [0] rfl rfl rfl rfl rfl
    ·replace h := br_f hg4 h
     refine Tk_condF (congrArg (fun b => some (Value.bool b)) hg4) ?_
     refine Tk_exit _ rfl ?_
     refine Tk_seq (Tk_region (Tops_step rfl (OpT_move rfl rfl rfl rfl) ?_))
     refine Tops_step rfl (OpT_assign rfl rfl rfl rfl) ?_
     refine Tops_step rfl (OpT_assign rfl rfl rfl rfl) ?_
     refine Tops_nil (tZ [2, 3] [0, 1, 2] [] rfl rfl rfl rfl ?_)
     refine Tk_vs (vs_mapV (i := 2) rfl) ?_
     refine Tk_vs (vs_join (i := 1) (j := 2) rfl rfl rfl) ?_
     refine Tk_vs (vs_join (i := 0) (j := 1) rfl rfl rfl) ?_
     refine Tk_vs (vs_optT tsectors_Store (sectors_Store.mk l1 map1) b1 [v2, .map (some mb1)] (i := 0) rfl (by kernel_rfl)) ?_
     obtain rfl := Option.some.inj h
     exact Tk_retV rfl rfl (resA (vs := [.pointer (some ⟨b1, 0, none⟩), vI (0 : Int)]) rfl ⟨rfl, rfl, trivial⟩) [0] [] rfl rfl rfl ⟨(.pointer (some ⟨b1, 0, none⟩)), rfl, rfl, rfl⟩

set_option maxRecDepth 100000 in
set_option maxHeartbeats 4000000 in
theorem w_sectors_Store_Count {sp0 : sectors_Store} {b_sp0 : Nat} {vsp01 : Value} {mb_sp0 : Nat} {r : Int} (h : sectors_Store_Count sp0 = some r) :
  Ctr Try.prog 29 #[.pointer (some ⟨b_sp0, 0, none⟩)] [(cellsR b_sp0 71 [vsp01, .map (some mb_sp0)]), (rowS secS vsp01 sp0.l), (mapR mb_sp0 .i64 (fun x : Int => x) vSec sp0.fresh)] []
   (fun rv own shr => rv = vI r ∧ own = [(cellsR b_sp0 71 [vsp01, .map (some mb_sp0)]), (rowS secS vsp01 sp0.l), (mapR mb_sp0 .i64 (fun x : Int => x) vSec sp0.fresh)] ∧ shr = []) := by
 unfold sectors_Store_Count at h
 refine Ctr.mk (args := [.pointer (some ⟨b_sp0, 0, none⟩)]) Try.func29 rfl rfl (fun R0 w0 B => ?_)
 refine Tk_seq (Tk_region (Tops_step rfl (OpT_assign rfl rfl rfl rfl) ?_))
 refine Tops_nil (tZ [0] [0, 1, 2] [] rfl rfl rfl rfl ?_)
 refine Tk_seq (Tk_seq (Tk_region (Tops_step rfl (OpT_move rfl rfl rfl rfl) ?_)))
 refine Tops_step rfl (OpT_ptrNil rfl rfl rfl (.inl rfl) rfl rfl ptrF22) ?_
 refine Tops_nil (tZ [0, 4] [0, 1, 2] [] rfl rfl rfl rfl ?_)
 refine Tk_condF rfl ?_
 refine Tk_skip (Tk_seq (Tk_region (Tops_step rfl (OpT_move rfl rfl rfl rfl) ?_)))
 refine Tops_step rfl (OpT_nilCheckP rfl rfl rfl rfl) ?_
 refine Tops_step rfl (OpT_fieldC rfl rfl rfl rfl fldF71x0) ?_
 refine Tops_step rfl (OpT_loadC rfl rfl rfl rfl tyF68 (i := 0) rfl rfl) ?_
 refine Tops_step rfl (OpT_lenO rfl rfl rfl rfl Try.underlying68 (i := 1) rfl) ?_
 refine Tops_step rfl (OpT_assign rfl rfl rfl rfl) ?_
 refine Tops_nil (tZ [2] [0, 1, 2] [] rfl rfl rfl rfl ?_)
 obtain rfl := Option.some.inj h
 exact Tk_retV rfl rfl (resA (vs := [vI (len sp0.l)]) rfl ⟨rfl, trivial⟩) [0, 1, 2] [] rfl rfl rfl ⟨rfl, rfl, rfl⟩

set_option maxRecDepth 100000 in
set_option maxHeartbeats 4000000 in
theorem w_sectors_Store_Image {sp0 : sectors_Store} {b_sp0 : Nat} {vsp01 : Value} {mb_sp0 : Nat} {r : ((List UInt8) × sectors_Store)} (h : sectors_Store_Image sp0 = some r) :
  Ctr Try.prog 17 #[.pointer (some ⟨b_sp0, 0, none⟩)] [(cellsR b_sp0 71 [vsp01, .map (some mb_sp0)]), (rowS secS vsp01 sp0.l), (mapR mb_sp0 .i64 (fun x : Int => x) vSec sp0.fresh)] []
   (fun rv own shr => ∃ (w1 : Value), ∃ (w2 : Value), rv = w1 ∧ own = [(cellsR b_sp0 71 [w2, .map (some mb_sp0)]), (rowS secS w2 r.2.l), (mapR mb_sp0 .i64 (fun x : Int => x) vSec r.2.fresh), (rowS u8S w1 r.1)] ∧ shr = []) := by
 unfold sectors_Store_Image at h
 refine Ctr.mk (args := [.pointer (some ⟨b_sp0, 0, none⟩)]) Try.func17 rfl rfl (fun R0 w0 B => ?_)
 refine Tk_seq (Tk_region (Tops_step rfl (OpT_assign rfl rfl rfl rfl) ?_))
 refine Tops_nil (tZ [0] [0, 1, 2] [] rfl rfl rfl rfl ?_)
 refine Tk_seq (Tk_region (Tops_step rfl (OpT_move rfl rfl rfl rfl) ?_))
 refine Tops_step rfl (OpT_move rfl rfl rfl rfl) ?_
 obtain ⟨count1, hx1, h⟩ := ob_e h
 refine Tops_exP rfl (OpT_callP [3, 4, 5] (w_sectors_Store_Count hx1) [0, 1, 2] [] rfl rfl rfl rfl rfl callee29 rfl rfl rfl rfl rfl) ?_
 rintro _ ⟨_, _, _, ⟨rfl, rfl, rfl⟩, rfl⟩
 obtain ⟨read1, hx2, h⟩ := ob_e h
 refine Tops_exP rfl (OpT_callP [3, 4, 5, 6] (w_sectors_Store_Read hx2) [0, 1, 2] [] rfl rfl rfl rfl rfl callee28 rfl rfl rfl rfl rfl) ?_
 rintro _ ⟨_, _, _, ⟨v1, v2, rfl, rfl, rfl⟩, rfl⟩
 refine Tops_step rfl (OpT_move rfl rfl rfl rfl) ?_
 refine Tops_step rfl (OpT_extract rfl rfl rfl rfl rfl) ?_
 refine Tops_step rfl (OpT_extract rfl rfl rfl rfl rfl) ?_
 refine Tops_step rfl (OpT_assign rfl rfl rfl rfl) ?_
 refine Tops_step rfl (OpT_assign rfl rfl rfl rfl) ?_
 refine Tops_nil (tZ [3] [0, 1, 2, 3] [] rfl rfl rfl rfl ?_)
 refine Tk_seq (Tk_region (Tops_step rfl (OpT_move rfl rfl rfl rfl) ?_))
 refine Tops_step rfl (OpT_assign rfl rfl rfl rfl) ?_
 refine Tops_nil (tZ [2] [0, 1, 2, 3] [] rfl rfl rfl rfl ?_)
 obtain rfl := Option.some.inj h
 exact Tk_retV rfl rfl (resA (vs := [v1]) rfl ⟨rfl, trivial⟩) [0, 1, 2, 3] [] rfl rfl rfl ⟨v1, v2, rfl, rfl, rfl⟩

set_option maxRecDepth 100000 in
set_option maxHeartbeats 4000000 in
theorem w_law21zcut {arg0 : Seg} {cuts : List Int} {vcuts1 : Value} {r : (List Seg)} (h : law21zcut arg0 cuts = some r) :
  Ctr Try.prog 18 #[.agg #[vU64 arg0.At, vU32 arg0.Len, vB arg0.Write], vcuts1] [] [Fact.sl iS vcuts1 cuts]
   (fun rv own shr => ∃ (w1 : Value), rv = w1 ∧ own = [(rowS SegS w1 r)] ∧ shr = []) := by
 unfold law21zcut at h
 refine Ctr.mk (args := [.agg #[vU64 arg0.At, vU32 arg0.Len, vB arg0.Write], vcuts1]) Try.func18 rfl rfl (fun R0 w0 B => ?_)
 refine Tk_seq (Tk_region (Tops_ex rfl (OpT_box rfl rfl rfl rfl) fun b1 => ?_))
 refine Tops_step rfl (OpT_assign rfl rfl rfl rfl) ?_
 refine Tops_nil (tZ [1, 2] [0] [0] rfl rfl rfl rfl ?_)
 refine Tk_seq (Tk_region (Tops_step rfl (OpT_assign rfl rfl rfl rfl) ?_))
 refine Tops_nil (Tk_seq (Tk_seq (Tk_region (Tops_step rfl (OpT_assign rfl rfl rfl rfl) ?_))))
 refine Tops_nil (Tk_block (Tk_nilrow SegS ?_))
 refine Tk_loopS (σ := Seg × (List Seg) × Int × Value) [1, 2, 5, 6] [0, 1] [0] (fun s => ⟨[(1, some (vcuts1)), (2, some (.pointer (some ⟨b1, 0, none⟩))), (5, some (s.2.2.2)), (6, some (vI s.2.2.1))], [some (cellsR b1 51 [vU64 s.1.At, vU32 s.1.Len, vB s.1.Write]), some (rowS SegS s.2.2.2 s.2.1)], [Fact.sl iS vcuts1 cuts]⟩) (fun nf1 s => law21zcutL1 cuts nf1 s.1 s.2.1 s.2.2.1 = some r) fuel (arg0, [], (0 : Int), (.slice none 0 0)) h rfl rfl rfl rfl rfl (fun s h => by cases h) ?_
 rintro nf1 ⟨m1, out1, i1, v1⟩ h
 replace h : law21zcutL1B cuts (law21zcutL1 cuts nf1) m1 out1 i1 = some r := h
 unfold law21zcutL1B at h
 refine Tk_seq (Tk_seq (Tk_region (Tops_step rfl (OpT_move rfl rfl rfl rfl) ?_)))
 refine Tops_step rfl (OpT_move rfl rfl rfl rfl) ?_
 refine Tops_step rfl (OpT_lenS rfl rfl rfl rfl Try.underlying49 (i := 0) rfl) ?_
 refine Tops_step rfl (OpT_bin rfl rfl rfl rfl rfl (bin_lss_i (a := i1) (b := len cuts))) ?_
 refine Tops_nil (tZ [1, 2, 5, 6, 10] [0, 1] [0] rfl rfl rfl rfl ?_)
 rcases Bool.eq_false_or_eq_true (decide (i1 < (len cuts))) with hg1 | hg1
 ·replace h := br_t hg1 h
  refine Tk_condT (congrArg (fun b => some (Value.bool b)) hg1) ?_
  refine Tk_skip (Tk_seq (Tk_join (α := Seg × (List Seg) × Value) (fun s => ⟨[(1, some (vcuts1)), (2, some (.pointer (some ⟨b1, 0, none⟩))), (5, some (s.2.2)), (6, some (vI i1))], [some (cellsR b1 51 [vU64 s.1.At, vU32 s.1.Len, vB s.1.Write]), some (rowS SegS s.2.2 s.2.1)], [Fact.sl iS vcuts1 cuts]⟩) (fun s => law21zcutJ2 i1 (law21zcutL1 cuts nf1) s.1 s.2.1 = some r) ?_ ?_))
  ·rintro ⟨m2, out2, v2⟩ h
   replace h : law21zcutJ2 i1 (law21zcutL1 cuts nf1) m2 out2 = some r := h
   unfold law21zcutJ2 at h
   refine Tk_region (Tops_step rfl (OpT_move rfl rfl rfl rfl) ?_)
   refine Tops_step rfl (OpT_bin rfl rfl rfl rfl rfl (bin_add_i (a := i1) (b := (1 : Int)))) ?_
   refine Tops_step rfl (OpT_assign rfl rfl rfl rfl) ?_
   refine Tops_nil (tZ [1, 2, 5, 6] [0, 1] [0] rfl rfl rfl rfl ?_)
   exact Tk_backS (m2, out2, wi (i1 + (1 : Int)), v2) h [1, 2, 5, 6] [0, 1] [0] rfl rfl rfl rfl rfl
  ·intro HJ1
   refine Tk_block (Tk_seq (Tk_drawT (by kernel_rfl) ?_))
   refine TA_tb [0, 0, 3, 7, 15, 31, 63, 63, 255, 511, 63, 1087, 3135, 8191, 16383] (by kernel_rfl) fun htb => ?_
   refine aZ [1, 2, 5, 6] [0, 1] [0] rfl rfl rfl rfl ?_
   refine TA_seg (lo := 0) (hi := 2) htb rfl rfl (by kernel_rfl) (fun c L a w => Sat c ⟨[(1, some (vcuts1)), (2, some (.pointer (some ⟨b1, 0, none⟩))), (5, some (v1)), (6, some (vI i1)), (13, bif L 0 then some (vcuts1) else none), (14, bif L 1 then some (vI i1) else none)], [(some (cellsR b1 51 [vU64 m1.At, vU32 m1.Len, vB m1.Write]) : Option Res), (some (rowS SegS v1 out1) : Option Res)], [Fact.sl iS vcuts1 cuts]⟩ a w) [([], []), ([], [])] rfl (by kernel_rfl) ?_ (steps_cons ?_ (steps_cons ?_ (steps_nil))) ?_
   ·intro a w hs
    exact hs.startF [13, 14] [0, 1] [0] rfl rfl rfl rfl
   ·intro L a w hv K Q hK
    have hs := hv
    refine wpOp_go rfl rfl hs (OpT_move rfl rfl rfl rfl) ?_
    rintro _ rfl a' w' hs'
    exact hK a' w' (hs'.putF (i := 4) rfl [0, 1] [0] rfl rfl rfl rfl)
   ·intro L a w hv K Q hK
    have hs := hv
    refine wpOp_go rfl rfl hs (OpT_move rfl rfl rfl rfl) ?_
    rintro _ rfl a' w' hs'
    exact hK a' w' (hs'.putF (i := 5) rfl [0, 1] [0] rfl rfl rfl rfl)
   ·intro L a w hL hv
    rw [allTrue hL] at hv
    have hs := hv
    refine gZ hs [1, 2, 5, 6, 13, 14] [0, 1] [0] rfl rfl rfl rfl ?_
    clear hs hL
    obtain ⟨y1, hx1, h⟩ := ob_e h
    refine TA_ex htb (by kernel_rfl) rfl rfl (OpT_idxS rfl rfl rfl rfl rfl slF49 (i := 0) rfl hx1) fun p1 => ?_
    refine TA_step htb (by kernel_rfl) rfl rfl (OpT_loadP rfl rfl rfl rfl tyF3 (i := 1) rfl rfl) ?_
    refine TA_step htb (by kernel_rfl) rfl rfl (OpT_bin rfl rfl rfl rfl rfl (bin_gtr_i (a := y1) (b := (0 : Int)))) ?_
    refine TA_step htb (by kernel_rfl) rfl rfl (OpT_move rfl rfl rfl rfl) ?_
    refine aZ [1, 2, 5, 6, 18] [0, 1] [0] rfl rfl rfl rfl ?_
    rcases Bool.eq_false_or_eq_true (decide (y1 > (0 : Int))) with hg2 | hg2
    ·replace h := br_t hg2 h
     obtain ⟨y2, hx2, h⟩ := ob_e h
     refine TA_seg (lo := 6) (hi := 13) htb rfl rfl (by kernel_rfl) (fun c L a w => ∃ (p2 : Value), Sat c ⟨[(1, some (vcuts1)), (2, some (.pointer (some ⟨b1, 0, none⟩))), (5, some (v1)), (6, some (vI i1)), (18, some (vB (decide (y1 > (0 : Int))))), (19, bif L 6 then some (vcuts1) else none), (20, bif L 7 then some (vI i1) else none), (21, bif L 8 then some (p2) else none), (22, bif L 9 then some (vI y2) else none), (23, bif L 10 then some (.pointer (some ⟨b1, 1, none⟩)) else none), (24, bif L 11 then some (vU32 m1.Len) else none), (25, bif L 12 then some (vI (i32 m1.Len)) else none)], [(some (cellsR b1 51 [vU64 m1.At, vU32 m1.Len, vB m1.Write]) : Option Res), (some (rowS SegS v1 out1) : Option Res)], [Fact.sl iS vcuts1 cuts, (bif L 8 then Fact.pt iS p2 y2 else Fact.tt)]⟩ a w) [([], [8, 9]), ([], [8, 9]), ([6, 7], [9]), ([6, 7, 8], []), ([], [11, 12]), ([10], [12]), ([10, 11], [])] rfl (by kernel_rfl) ?_ (steps_cons ?_ (steps_cons ?_ (steps_cons ?_ (steps_cons ?_ (steps_cons ?_ (steps_cons ?_ (steps_cons ?_ (steps_nil)))))))) ?_
     ·intro a w hs
      exact ⟨undef, hs.startF [19, 20, 21, 22, 23, 24, 25] [0, 1] [0, 1] rfl rfl rfl rfl⟩
     ·intro L a w hv K Q hK
      obtain ⟨p2, hs⟩ := hv
      refine wpOp_yes rfl rfl rfl hs (congrArg (fun b => some (Value.bool b)) hg2) (OpT_move rfl rfl rfl rfl) ?_
      rintro _ rfl a' w' hs'
      exact hK a' w' ⟨p2, hs'.putF (i := 5) rfl [0, 1] [0, 1] rfl rfl rfl rfl⟩
     ·intro L a w hv K Q hK
      obtain ⟨p2, hs⟩ := hv
      refine wpOp_yes rfl rfl rfl hs (congrArg (fun b => some (Value.bool b)) hg2) (OpT_move rfl rfl rfl rfl) ?_
      rintro _ rfl a' w' hs'
      exact hK a' w' ⟨p2, hs'.putF (i := 6) rfl [0, 1] [0, 1] rfl rfl rfl rfl⟩
     ·intro L a w hv K Q hK
      obtain ⟨p2, hs⟩ := hv
      refine wpOp_yes rfl rfl rfl hs (congrArg (fun b => some (Value.bool b)) hg2) (OpT_idxS rfl rfl rfl rfl rfl slF49 (i := 0) rfl hx2) ?_
      rintro _ ⟨p2', rfl⟩ a' w' hs'
      exact hK a' w' ⟨p2', hs'.putF (i := 7) rfl [0, 1] [0, 2] rfl rfl rfl rfl⟩
     ·intro L a w hv K Q hK
      obtain ⟨p2, hs⟩ := hv
      refine wpOp_yes rfl rfl rfl hs (congrArg (fun b => some (Value.bool b)) hg2) (OpT_loadP rfl rfl rfl rfl tyF3 (i := 1) rfl rfl) ?_
      rintro _ rfl a' w' hs'
      exact hK a' w' ⟨p2, hs'.putF (i := 8) rfl [0, 1] [0, 1] rfl rfl rfl rfl⟩
     ·intro L a w hv K Q hK
      obtain ⟨p2, hs⟩ := hv
      refine wpOp_yes rfl rfl rfl hs (congrArg (fun b => some (Value.bool b)) hg2) (OpT_fieldC rfl rfl rfl rfl fldF51x1) ?_
      rintro _ rfl a' w' hs'
      exact hK a' w' ⟨p2, hs'.putF (i := 9) rfl [0, 1] [0, 1] rfl rfl rfl rfl⟩
     ·intro L a w hv K Q hK
      obtain ⟨p2, hs⟩ := hv
      refine wpOp_yes rfl rfl rfl hs (congrArg (fun b => some (Value.bool b)) hg2) (OpT_loadC rfl rfl rfl rfl tyF29 (i := 0) rfl rfl) ?_
      rintro _ rfl a' w' hs'
      exact hK a' w' ⟨p2, hs'.putF (i := 10) rfl [0, 1] [0, 1] rfl rfl rfl rfl⟩
     ·intro L a w hv K Q hK
      obtain ⟨p2, hs⟩ := hv
      refine wpOp_yes rfl rfl rfl hs (congrArg (fun b => some (Value.bool b)) hg2) (OpT_cnv rfl rfl rfl rfl (cnv_u32_i (n := m1.Len) Try.underlying29 Try.underlying3)) ?_
      rintro _ rfl a' w' hs'
      exact hK a' w' ⟨p2, hs'.putF (i := 11) rfl [0, 1] [0, 1] rfl rfl rfl rfl⟩
     ·intro L a w hL hv
      rw [allTrue hL] at hv
      obtain ⟨p2, hs⟩ := hv
      refine gZ hs [1, 2, 5, 6, 18, 22, 25] [0, 1] [0] rfl rfl rfl rfl ?_
      clear hs hL
      refine TA_yes htb (by kernel_rfl) rfl rfl rfl (congrArg (fun b => some (Value.bool b)) hg2) (OpT_bin rfl rfl rfl rfl rfl (bin_lss_i (a := y2) (b := i32 m1.Len))) ?_
      rintro _ rfl
      refine TA_step htb (by kernel_rfl) rfl rfl (OpT_pickT rfl rfl rfl (congrArg (fun b => some (Value.bool b)) hg2) rfl) ?_
      refine TA_end rfl ?_
      refine tZ [1, 2, 5, 6, 27] [0, 1] [0] rfl rfl rfl rfl ?_
      refine Tk_join (α := Seg × (List Seg) × Value) (fun s => ⟨[(1, some (vcuts1)), (2, some (.pointer (some ⟨b1, 0, none⟩))), (5, some (s.2.2)), (6, some (vI i1))], [some (cellsR b1 51 [vU64 s.1.At, vU32 s.1.Len, vB s.1.Write]), some (rowS SegS s.2.2 s.2.1)], [Fact.sl iS vcuts1 cuts]⟩) (fun s => law21zcutJ3 i1 (law21zcutL1 cuts nf1) s.1 s.2.1 = some r) ?_ ?_
      ·rintro ⟨m3, out3, v3⟩ h
       replace h : law21zcutJ3 i1 (law21zcutL1 cuts nf1) m3 out3 = some r := h
       unfold law21zcutJ3 at h
       refine Tk_blk ?_
       exact Tk_jmpS (HJ1 (m3, out3, v3) h) [1, 2, 5, 6] [0, 1] [0] rfl rfl rfl rfl
      ·intro HJ2
       rcases Bool.eq_false_or_eq_true (decide (y2 < (i32 m1.Len))) with hg3 | hg3
       ·replace h := br_t hg3 h
        refine Tk_condT (congrArg (fun b => some (Value.bool b)) hg3) ?_
        refine Tk_seq (Tk_drawT (by kernel_rfl) ?_)
        refine TA_tb [0, 0, 2, 0, 0, 24, 56, 120, 0, 256, 1022, 2046, 4095, 8191] (by kernel_rfl) fun htb => ?_
        refine aZ [1, 2, 5, 6] [0, 1] [0] rfl rfl rfl rfl ?_
        obtain ⟨y3, hx3, h⟩ := ob_e h
        refine TA_seg (lo := 0) (hi := 12) htb rfl rfl (by kernel_rfl) (fun c L a w => ∃ (p3 : Value), ∃ (v4 : Value), Sat c ⟨[(1, some (vcuts1)), (2, some (.pointer (some ⟨b1, 0, none⟩))), (5, some (v1)), (6, some (vI i1)), (28, bif L 0 then some (v1) else none), (29, bif L 1 then some (.pointer (some ⟨b1, 0, none⟩)) else none), (30, bif L 2 then some (vU64 m1.At) else none), (31, bif L 3 then some (vcuts1) else none), (32, bif L 4 then some (vI i1) else none), (33, bif L 5 then some (p3) else none), (34, bif L 6 then some (vI y3) else none), (35, bif L 7 then some (vU32 (u32 y3)) else none), (36, bif L 8 then some (.pointer (some ⟨b1, 2, none⟩)) else none), (37, bif L 9 then some (vB m1.Write) else none), (38, bif L 10 then some (.agg #[vU64 m1.At, vU32 (u32 y3), vB m1.Write]) else none), (39, bif L 11 then some (v4) else none)], [(some (cellsR b1 51 [vU64 m1.At, vU32 m1.Len, vB m1.Write]) : Option Res), (some (rowS SegS v1 out1) : Option Res), (bif L 11 then some (rowS SegS v4 [(Seg.mk m1.At (u32 y3) m1.Write)]) else none : Option Res)], [Fact.sl iS vcuts1 cuts, (bif L 5 then Fact.pt iS p3 y3 else Fact.tt)]⟩ a w) [([], []), ([], [2, 10, 11]), ([1], [10, 11]), ([], [5, 6, 7, 10, 11]), ([], [5, 6, 7, 10, 11]), ([3, 4], [6, 7, 10, 11]), ([3, 4, 5], [7, 10, 11]), ([3, 4, 5, 6], [10, 11]), ([], [9, 10, 11]), ([8], [10, 11]), ([1, 2, 3, 4, 5, 6, 7, 8, 9], [11]), ([1, 2, 3, 4, 5, 6, 7, 8, 9, 10], [])] rfl (by kernel_rfl) ?_ (steps_cons ?_ (steps_cons ?_ (steps_cons ?_ (steps_cons ?_ (steps_cons ?_ (steps_cons ?_ (steps_cons ?_ (steps_cons ?_ (steps_cons ?_ (steps_cons ?_ (steps_cons ?_ (steps_cons ?_ (steps_nil))))))))))))) ?_
        ·intro a w hs
         exact ⟨undef, undef, hs.startF [28, 29, 30, 31, 32, 33, 34, 35, 36, 37, 38, 39] [0, 1, 2] [0, 1] rfl rfl rfl rfl⟩
        ·intro L a w hv K Q hK
         obtain ⟨p3, v4, hs⟩ := hv
         refine wpOp_go rfl rfl hs (OpT_move rfl rfl rfl rfl) ?_
         rintro _ rfl a' w' hs'
         exact hK a' w' ⟨p3, v4, hs'.putF (i := 4) rfl [0, 1, 2] [0, 1] rfl rfl rfl rfl⟩
        ·intro L a w hv K Q hK
         obtain ⟨p3, v4, hs⟩ := hv
         refine wpOp_go rfl rfl hs (OpT_fieldC rfl rfl rfl rfl fldF51x0) ?_
         rintro _ rfl a' w' hs'
         exact hK a' w' ⟨p3, v4, hs'.putF (i := 5) rfl [0, 1, 2] [0, 1] rfl rfl rfl rfl⟩
        ·intro L a w hv K Q hK
         obtain ⟨p3, v4, hs⟩ := hv
         refine wpOp_go rfl rfl hs (OpT_loadC rfl rfl rfl rfl tyF30 (i := 0) rfl rfl) ?_
         rintro _ rfl a' w' hs'
         exact hK a' w' ⟨p3, v4, hs'.putF (i := 6) rfl [0, 1, 2] [0, 1] rfl rfl rfl rfl⟩
        ·intro L a w hv K Q hK
         obtain ⟨p3, v4, hs⟩ := hv
         refine wpOp_go rfl rfl hs (OpT_move rfl rfl rfl rfl) ?_
         rintro _ rfl a' w' hs'
         exact hK a' w' ⟨p3, v4, hs'.putF (i := 7) rfl [0, 1, 2] [0, 1] rfl rfl rfl rfl⟩
        ·intro L a w hv K Q hK
         obtain ⟨p3, v4, hs⟩ := hv
         refine wpOp_go rfl rfl hs (OpT_move rfl rfl rfl rfl) ?_
         rintro _ rfl a' w' hs'
         exact hK a' w' ⟨p3, v4, hs'.putF (i := 8) rfl [0, 1, 2] [0, 1] rfl rfl rfl rfl⟩
        ·intro L a w hv K Q hK
         obtain ⟨p3, v4, hs⟩ := hv
         refine wpOp_go rfl rfl hs (OpT_idxS rfl rfl rfl rfl rfl slF49 (i := 0) rfl hx3) ?_
         rintro _ ⟨p3', rfl⟩ a' w' hs'
         exact hK a' w' ⟨p3', v4, hs'.putF (i := 9) rfl [0, 1, 2] [0, 2] rfl rfl rfl rfl⟩
        ·intro L a w hv K Q hK
         obtain ⟨p3, v4, hs⟩ := hv
         refine wpOp_go rfl rfl hs (OpT_loadP rfl rfl rfl rfl tyF3 (i := 1) rfl rfl) ?_
         rintro _ rfl a' w' hs'
         exact hK a' w' ⟨p3, v4, hs'.putF (i := 10) rfl [0, 1, 2] [0, 1] rfl rfl rfl rfl⟩
        ·intro L a w hv K Q hK
         obtain ⟨p3, v4, hs⟩ := hv
         refine wpOp_go rfl rfl hs (OpT_cnv rfl rfl rfl rfl (cnv_i_u32 (n := y3) Try.underlying3 Try.underlying29)) ?_
         rintro _ rfl a' w' hs'
         exact hK a' w' ⟨p3, v4, hs'.putF (i := 11) rfl [0, 1, 2] [0, 1] rfl rfl rfl rfl⟩
        ·intro L a w hv K Q hK
         obtain ⟨p3, v4, hs⟩ := hv
         refine wpOp_go rfl rfl hs (OpT_fieldC rfl rfl rfl rfl fldF51x2) ?_
         rintro _ rfl a' w' hs'
         exact hK a' w' ⟨p3, v4, hs'.putF (i := 12) rfl [0, 1, 2] [0, 1] rfl rfl rfl rfl⟩
        ·intro L a w hv K Q hK
         obtain ⟨p3, v4, hs⟩ := hv
         refine wpOp_go rfl rfl hs (OpT_loadC rfl rfl rfl rfl tyF4 (i := 0) rfl rfl) ?_
         rintro _ rfl a' w' hs'
         exact hK a' w' ⟨p3, v4, hs'.putF (i := 13) rfl [0, 1, 2] [0, 1] rfl rfl rfl rfl⟩
        ·intro L a w hv K Q hK
         obtain ⟨p3, v4, hs⟩ := hv
         refine wpOp_go rfl rfl hs (OpT_build (v := .agg #[vU64 m1.At, vU32 (u32 y3), vB m1.Write]) rfl rfl rfl rfl (bldV (by kernel_rfl))) ?_
         rintro _ rfl a' w' hs'
         exact hK a' w' ⟨p3, v4, hs'.putF (i := 14) rfl [0, 1, 2] [0, 1] rfl rfl rfl rfl⟩
        ·intro L a w hv K Q hK
         obtain ⟨p3, v4, hs⟩ := hv
         refine wpOp_go rfl rfl hs (OpT_buildSlice (S := SegS) (xs := [(Seg.mk m1.At (u32 y3) m1.Write)]) (css := [[vU64 m1.At, vU32 (u32 y3), vB m1.Write]]) (cs := [vU64 m1.At, vU32 (u32 y3), vB m1.Write]) (e := 51) rfl rfl rfl rfl (bldF slF52 (by decide) (by kernel_rfl)) rfl rfl rfl rfl (rel_plainD (S := SegS) (xs := [(Seg.mk m1.At (u32 y3) m1.Write)]) (css := [[vU64 m1.At, vU32 (u32 y3), vB m1.Write]]) rfl rfl)) ?_
         rintro _ ⟨v4', rfl⟩ a' w' hs'
         exact hK a' w' ⟨p3, v4', hs'.putF (i := 15) rfl [0, 1, 3] [0, 1] rfl rfl rfl rfl⟩
        ·intro L a w hL hv
         rw [allTrue hL] at hv
         obtain ⟨p3, v4, hs⟩ := hv
         refine gZ hs [1, 2, 6, 28, 39] [0, 1, 2] [0] rfl rfl rfl rfl ?_
         clear hs hL
         obtain ⟨hc1, h⟩ := chk_e h
         refine TA_ex htb (by kernel_rfl) rfl rfl (OpT_appendB (S := SegS) rfl rfl rfl rfl rfl rfl slF52 (i := 1) (j := 2) rfl rfl hc1) fun v5 => ?_
         refine TA_step htb (by kernel_rfl) rfl rfl (OpT_assign rfl rfl rfl rfl) ?_
         refine TA_end rfl ?_
         refine tZ [1, 2, 6, 5] [0, 1] [0] rfl rfl rfl rfl ?_
         refine Tk_drawT (by kernel_rfl) ?_
         refine TA_tb [0, 1, 0, 0, 12, 28, 60, 127, 0, 256, 0, 0, 3072, 7168, 15360, 32512, 1023, 66559, 262143, 524287] (by kernel_rfl) fun htb => ?_
         obtain ⟨y4, hx4, h⟩ := ob_e h
         obtain ⟨y5, hx5, h⟩ := ob_e h
         refine TA_seg (lo := 0) (hi := 18) htb rfl rfl (by kernel_rfl) (fun c L a w => ∃ (p4 : Value), ∃ (p5 : Value), Sat c ⟨[(1, some (vcuts1)), (2, some (.pointer (some ⟨b1, 0, none⟩))), (6, some (vI i1)), (5, some (v5)), (41, bif L 0 then some (.pointer (some ⟨b1, 0, none⟩)) else none), (42, bif L 1 then some (vU64 m1.At) else none), (43, bif L 2 then some (vcuts1) else none), (44, bif L 3 then some (vI i1) else none), (45, bif L 4 then some (p4) else none), (46, bif L 5 then some (vI y4) else none), (47, bif L 6 then some (vU64 (u64 y4)) else none), (48, bif L 7 then some (vU64 (m1.At + (u64 y4))) else none), (49, bif L 8 then some (.pointer (some ⟨b1, 1, none⟩)) else none), (50, bif L 9 then some (vU32 m1.Len) else none), (51, bif L 10 then some (vcuts1) else none), (52, bif L 11 then some (vI i1) else none), (53, bif L 12 then some (p5) else none), (54, bif L 13 then some (vI y5) else none), (55, bif L 14 then some (vU32 (u32 y5)) else none), (56, bif L 15 then some (vU32 (m1.Len - (u32 y5))) else none), (57, bif L 16 then some (.pointer (some ⟨b1, 0, none⟩)) else none)], [(bif L 17 then some (cellsR b1 51 [vU64 (m1.At + (u64 y4)), vU32 m1.Len, vB m1.Write]) else some (cellsR b1 51 [vU64 m1.At, vU32 m1.Len, vB m1.Write]) : Option Res), (some (rowS SegS v5 (out1 ++ [(Seg.mk m1.At (u32 y3) m1.Write)])) : Option Res)], [Fact.sl iS vcuts1 cuts, (bif L 4 then Fact.pt iS p4 y4 else Fact.tt), (bif L 12 then Fact.pt iS p5 y5 else Fact.tt)]⟩ a w) [([], [1, 7, 16, 17]), ([0], [7, 16, 17]), ([], [4, 5, 6, 7, 16, 17]), ([], [4, 5, 6, 7, 16, 17]), ([2, 3], [5, 6, 7, 16, 17]), ([2, 3, 4], [6, 7, 16, 17]), ([2, 3, 4, 5], [7, 16, 17]), ([0, 1, 2, 3, 4, 5, 6], [16, 17]), ([], [9, 15, 16, 17]), ([8], [15, 16, 17]), ([], [12, 13, 14, 15]), ([], [12, 13, 14, 15]), ([10, 11], [13, 14, 15]), ([10, 11, 12], [14, 15]), ([10, 11, 12, 13], [15]), ([8, 9, 10, 11, 12, 13, 14], []), ([0, 1, 2, 3, 4, 5, 6, 7, 8, 9], [17]), ([0, 1, 2, 3, 4, 5, 6, 7, 8, 9, 16], [])] rfl (by kernel_rfl) ?_ (steps_cons ?_ (steps_cons ?_ (steps_cons ?_ (steps_cons ?_ (steps_cons ?_ (steps_cons ?_ (steps_cons ?_ (steps_cons ?_ (steps_cons ?_ (steps_cons ?_ (steps_cons ?_ (steps_cons ?_ (steps_cons ?_ (steps_cons ?_ (steps_cons ?_ (steps_cons ?_ (steps_cons ?_ (steps_cons ?_ (steps_nil))))))))))))))))))) ?_
         ·intro a w hs
          exact ⟨undef, undef, hs.startF [41, 42, 43, 44, 45, 46, 47, 48, 49, 50, 51, 52, 53, 54, 55, 56, 57] [0, 1] [0, 1, 2] rfl rfl rfl rfl⟩
         ·intro L a w hv K Q hK
          obtain ⟨p4, p5, hs⟩ := hv
          refine wpOp_go rfl rfl hs (OpT_fieldC rfl rfl rfl rfl fldF51x0) ?_
          rintro _ rfl a' w' hs'
          exact hK a' w' ⟨p4, p5, hs'.putF (i := 4) rfl [0, 1] [0, 1, 2] rfl rfl rfl rfl⟩
         ·intro L a w hv K Q hK
          obtain ⟨p4, p5, hs⟩ := hv
          refine wpOp_go rfl rfl hs (OpT_loadC rfl rfl rfl rfl tyF30 (i := 0) rfl rfl) ?_
          rintro _ rfl a' w' hs'
          exact hK a' w' ⟨p4, p5, hs'.putF (i := 5) rfl [0, 1] [0, 1, 2] rfl rfl rfl rfl⟩
         ·intro L a w hv K Q hK
          obtain ⟨p4, p5, hs⟩ := hv
          refine wpOp_go rfl rfl hs (OpT_move rfl rfl rfl rfl) ?_
          rintro _ rfl a' w' hs'
          exact hK a' w' ⟨p4, p5, hs'.putF (i := 6) rfl [0, 1] [0, 1, 2] rfl rfl rfl rfl⟩
         ·intro L a w hv K Q hK
          obtain ⟨p4, p5, hs⟩ := hv
          refine wpOp_go rfl rfl hs (OpT_move rfl rfl rfl rfl) ?_
          rintro _ rfl a' w' hs'
          exact hK a' w' ⟨p4, p5, hs'.putF (i := 7) rfl [0, 1] [0, 1, 2] rfl rfl rfl rfl⟩
         ·intro L a w hv K Q hK
          obtain ⟨p4, p5, hs⟩ := hv
          refine wpOp_go rfl rfl hs (OpT_idxS rfl rfl rfl rfl rfl slF49 (i := 0) rfl hx4) ?_
          rintro _ ⟨p4', rfl⟩ a' w' hs'
          exact hK a' w' ⟨p4', p5, hs'.putF (i := 8) rfl [0, 1] [0, 3, 2] rfl rfl rfl rfl⟩
         ·intro L a w hv K Q hK
          obtain ⟨p4, p5, hs⟩ := hv
          refine wpOp_go rfl rfl hs (OpT_loadP rfl rfl rfl rfl tyF3 (i := 1) rfl rfl) ?_
          rintro _ rfl a' w' hs'
          exact hK a' w' ⟨p4, p5, hs'.putF (i := 9) rfl [0, 1] [0, 1, 2] rfl rfl rfl rfl⟩
         ·intro L a w hv K Q hK
          obtain ⟨p4, p5, hs⟩ := hv
          refine wpOp_go rfl rfl hs (OpT_cnv rfl rfl rfl rfl (cnv_i_u64 (n := y4) Try.underlying3 Try.underlying30)) ?_
          rintro _ rfl a' w' hs'
          exact hK a' w' ⟨p4, p5, hs'.putF (i := 10) rfl [0, 1] [0, 1, 2] rfl rfl rfl rfl⟩
         ·intro L a w hv K Q hK
          obtain ⟨p4, p5, hs⟩ := hv
          refine wpOp_go rfl rfl hs (OpT_bin rfl rfl rfl rfl rfl (bin_add_u64 (a := m1.At) (b := u64 y4))) ?_
          rintro _ rfl a' w' hs'
          exact hK a' w' ⟨p4, p5, hs'.putF (i := 11) rfl [0, 1] [0, 1, 2] rfl rfl rfl rfl⟩
         ·intro L a w hv K Q hK
          obtain ⟨p4, p5, hs⟩ := hv
          refine wpOp_go rfl rfl hs (OpT_fieldC rfl rfl rfl rfl fldF51x1) ?_
          rintro _ rfl a' w' hs'
          exact hK a' w' ⟨p4, p5, hs'.putF (i := 12) rfl [0, 1] [0, 1, 2] rfl rfl rfl rfl⟩
         ·intro L a w hv K Q hK
          obtain ⟨p4, p5, hs⟩ := hv
          refine wpOp_go rfl rfl hs (OpT_loadC rfl rfl rfl rfl tyF29 (i := 0) rfl rfl) ?_
          rintro _ rfl a' w' hs'
          exact hK a' w' ⟨p4, p5, hs'.putF (i := 13) rfl [0, 1] [0, 1, 2] rfl rfl rfl rfl⟩
         ·intro L a w hv K Q hK
          obtain ⟨p4, p5, hs⟩ := hv
          refine wpOp_go rfl rfl hs (OpT_move rfl rfl rfl rfl) ?_
          rintro _ rfl a' w' hs'
          exact hK a' w' ⟨p4, p5, hs'.putF (i := 14) rfl [0, 1] [0, 1, 2] rfl rfl rfl rfl⟩
         ·intro L a w hv K Q hK
          obtain ⟨p4, p5, hs⟩ := hv
          refine wpOp_go rfl rfl hs (OpT_move rfl rfl rfl rfl) ?_
          rintro _ rfl a' w' hs'
          exact hK a' w' ⟨p4, p5, hs'.putF (i := 15) rfl [0, 1] [0, 1, 2] rfl rfl rfl rfl⟩
         ·intro L a w hv K Q hK
          obtain ⟨p4, p5, hs⟩ := hv
          refine wpOp_go rfl rfl hs (OpT_idxS rfl rfl rfl rfl rfl slF49 (i := 0) rfl hx5) ?_
          rintro _ ⟨p5', rfl⟩ a' w' hs'
          exact hK a' w' ⟨p4, p5', hs'.putF (i := 16) rfl [0, 1] [0, 1, 3] rfl rfl rfl rfl⟩
         ·intro L a w hv K Q hK
          obtain ⟨p4, p5, hs⟩ := hv
          refine wpOp_go rfl rfl hs (OpT_loadP rfl rfl rfl rfl tyF3 (i := 2) rfl rfl) ?_
          rintro _ rfl a' w' hs'
          exact hK a' w' ⟨p4, p5, hs'.putF (i := 17) rfl [0, 1] [0, 1, 2] rfl rfl rfl rfl⟩
         ·intro L a w hv K Q hK
          obtain ⟨p4, p5, hs⟩ := hv
          refine wpOp_go rfl rfl hs (OpT_cnv rfl rfl rfl rfl (cnv_i_u32 (n := y5) Try.underlying3 Try.underlying29)) ?_
          rintro _ rfl a' w' hs'
          exact hK a' w' ⟨p4, p5, hs'.putF (i := 18) rfl [0, 1] [0, 1, 2] rfl rfl rfl rfl⟩
         ·intro L a w hv K Q hK
          obtain ⟨p4, p5, hs⟩ := hv
          refine wpOp_go rfl rfl hs (OpT_bin rfl rfl rfl rfl rfl (bin_sub_u32 (a := m1.Len) (b := u32 y5))) ?_
          rintro _ rfl a' w' hs'
          exact hK a' w' ⟨p4, p5, hs'.putF (i := 19) rfl [0, 1] [0, 1, 2] rfl rfl rfl rfl⟩
         ·intro L a w hv K Q hK
          obtain ⟨p4, p5, hs⟩ := hv
          refine wpOp_go rfl rfl hs (OpT_fieldC rfl rfl rfl rfl fldF51x0) ?_
          rintro _ rfl a' w' hs'
          exact hK a' w' ⟨p4, p5, hs'.putF (i := 20) rfl [0, 1] [0, 1, 2] rfl rfl rfl rfl⟩
         ·intro L a w hv K Q hK
          obtain ⟨p4, p5, hs⟩ := hv
          refine wpOp_go rfl rfl hs (OpT_storeC (cs' := [vU64 (m1.At + (u64 y4)), vU32 m1.Len, vB m1.Write]) rfl rfl rfl rfl tyF30 (i := 0) rfl rfl rfl (one_of rfl) rfl) ?_
          rintro _ rfl a' w' hs'
          exact hK a' w' ⟨p4, p5, hs'.sameF [0, 1] [0, 1, 2] rfl rfl rfl rfl⟩
         ·intro L a w hL hv
          rw [allTrue hL] at hv
          obtain ⟨p4, p5, hs⟩ := hv
          refine gZ hs [1, 2, 6, 5, 56] [0, 1] [0] rfl rfl rfl rfl ?_
          clear hs hL
          refine TA_step htb (by kernel_rfl) rfl rfl (OpT_fieldC rfl rfl rfl rfl fldF51x1) ?_
          refine TA_step htb (by kernel_rfl) rfl rfl (OpT_storeC (cs' := [vU64 (m1.At + (u64 y4)), vU32 (m1.Len - (u32 y5)), vB m1.Write]) rfl rfl rfl rfl tyF29 (i := 0) rfl rfl rfl (one_of rfl) rfl) ?_
          refine TA_end rfl ?_
          refine tZ [1, 2, 6, 5] [0, 1] [0] rfl rfl rfl rfl ?_
          exact Tk_jmpS (HJ2 ((Seg.mk (m1.At + (u64 y4)) (m1.Len - (u32 y5)) m1.Write), out1 ++ [(Seg.mk m1.At (u32 y3) m1.Write)], v5) h) [1, 2, 5, 6] [0, 1] [0] rfl rfl rfl rfl
       ·replace h := br_f hg3 h
        refine Tk_condF (congrArg (fun b => some (Value.bool b)) hg3) ?_
        refine Tk_skip ?_
        exact Tk_jmpS (HJ2 (m1, out1, v1) h) [1, 2, 5, 6] [0, 1] [0] rfl rfl rfl rfl
    ·replace h := br_f hg2 h
     refine TA_seg (lo := 6) (hi := 13) htb rfl rfl (by kernel_rfl) (fun c L a w => Sat c ⟨[(1, some (vcuts1)), (2, some (.pointer (some ⟨b1, 0, none⟩))), (5, some (v1)), (6, some (vI i1)), (18, some (vB (decide (y1 > (0 : Int))))), (19, bif L 6 then some (undef) else none), (20, bif L 7 then some (undef) else none), (21, bif L 8 then some (undef) else none), (22, bif L 9 then some (undef) else none), (23, bif L 10 then some (undef) else none), (24, bif L 11 then some (undef) else none), (25, bif L 12 then some (undef) else none)], [(some (cellsR b1 51 [vU64 m1.At, vU32 m1.Len, vB m1.Write]) : Option Res), (some (rowS SegS v1 out1) : Option Res)], [Fact.sl iS vcuts1 cuts]⟩ a w) [([], [8, 9]), ([], [8, 9]), ([6, 7], [9]), ([6, 7, 8], []), ([], [11, 12]), ([10], [12]), ([10, 11], [])] rfl (by kernel_rfl) ?_ (steps_cons ?_ (steps_cons ?_ (steps_cons ?_ (steps_cons ?_ (steps_cons ?_ (steps_cons ?_ (steps_cons ?_ (steps_nil)))))))) ?_
     ·intro a w hs
      exact hs.startF [19, 20, 21, 22, 23, 24, 25] [0, 1] [0] rfl rfl rfl rfl
     ·intro L a w hv K Q hK
      have hs := hv
      refine wpOp_no rfl rfl rfl hs (congrArg (fun b => some (Value.bool b)) hg2) rfl rfl ?_
      intro a' w' hs'
      exact hK a' w' (hs'.putF (i := 5) rfl [0, 1] [0] rfl rfl rfl rfl)
     ·intro L a w hv K Q hK
      have hs := hv
      refine wpOp_no rfl rfl rfl hs (congrArg (fun b => some (Value.bool b)) hg2) rfl rfl ?_
      intro a' w' hs'
      exact hK a' w' (hs'.putF (i := 6) rfl [0, 1] [0] rfl rfl rfl rfl)
     ·intro L a w hv K Q hK
      have hs := hv
      refine wpOp_no rfl rfl rfl hs (congrArg (fun b => some (Value.bool b)) hg2) rfl rfl ?_
      intro a' w' hs'
      exact hK a' w' (hs'.putF (i := 7) rfl [0, 1] [0] rfl rfl rfl rfl)
     ·intro L a w hv K Q hK
      have hs := hv
      refine wpOp_no rfl rfl rfl hs (congrArg (fun b => some (Value.bool b)) hg2) rfl rfl ?_
      intro a' w' hs'
      exact hK a' w' (hs'.putF (i := 8) rfl [0, 1] [0] rfl rfl rfl rfl)
     ·intro L a w hv K Q hK
      have hs := hv
      refine wpOp_no rfl rfl rfl hs (congrArg (fun b => some (Value.bool b)) hg2) rfl rfl ?_
      intro a' w' hs'
      exact hK a' w' (hs'.putF (i := 9) rfl [0, 1] [0] rfl rfl rfl rfl)
     ·intro L a w hv K Q hK
      have hs := hv
      refine wpOp_no rfl rfl rfl hs (congrArg (fun b => some (Value.bool b)) hg2) rfl rfl ?_
      intro a' w' hs'
      exact hK a' w' (hs'.putF (i := 10) rfl [0, 1] [0] rfl rfl rfl rfl)
     ·intro L a w hv K Q hK
      have hs := hv
      refine wpOp_no rfl rfl rfl hs (congrArg (fun b => some (Value.bool b)) hg2) rfl rfl ?_
      intro a' w' hs'
      exact hK a' w' (hs'.putF (i := 11) rfl [0, 1] [0] rfl rfl rfl rfl)
     ·intro L a w hL hv
      rw [allTrue hL] at hv
      have hs := hv
      refine gZ hs [1, 2, 5, 6, 18, 22, 25] [0, 1] [0] rfl rfl rfl rfl ?_
      clear hs hL
      refine TA_no htb (by kernel_rfl) rfl rfl rfl (congrArg (fun b => some (Value.bool b)) hg2) rfl rfl ?_
      refine TA_step htb (by kernel_rfl) rfl rfl (OpT_pickF rfl rfl rfl (congrArg (fun b => some (Value.bool b)) hg2) rfl) ?_
      refine TA_end rfl ?_
      refine tZ [1, 2, 5, 6, 27] [0, 1] [0] rfl rfl rfl rfl ?_
      refine Tk_condF rfl ?_
      refine Tk_skip (Tk_blk ?_)
      exact Tk_jmpS (HJ1 (m1, out1, v1) h) [1, 2, 5, 6] [0, 1] [0] rfl rfl rfl rfl
 ·replace h := br_f hg1 h
  refine Tk_condF (congrArg (fun b => some (Value.bool b)) hg1) ?_
  refine Tk_exit _ rfl ?_
  refine Tk_seq (Tk_region (Tops_step rfl (OpT_move rfl rfl rfl rfl) ?_))
  refine Tops_step rfl (OpT_loadCA (vs := [vU64 m1.At, vU32 m1.Len, vB m1.Write]) rfl rfl rfl rfl tyF51 (i := 0) rfl rfl rfl) ?_
  refine Tops_ex rfl (OpT_buildSlice (S := SegS) (xs := [m1]) (css := [[vU64 m1.At, vU32 m1.Len, vB m1.Write]]) (cs := [vU64 m1.At, vU32 m1.Len, vB m1.Write]) (e := 51) rfl rfl rfl rfl (bldF slF52 (by decide) (by kernel_rfl)) rfl rfl rfl rfl (rel_plainD (S := SegS) (xs := [m1]) (css := [[vU64 m1.At, vU32 m1.Len, vB m1.Write]]) rfl rfl)) fun v6 => ?_
  obtain ⟨hc2, h⟩ := chk_e h
  refine Tops_ex rfl (OpT_appendB (S := SegS) rfl rfl rfl rfl rfl rfl slF52 (i := 1) (j := 2) rfl rfl hc2) fun v7 => ?_
  refine Tops_step rfl (OpT_assign rfl rfl rfl rfl) ?_
  refine Tops_nil (tZ [4] [1] [] rfl rfl rfl rfl ?_)
  obtain rfl := Option.some.inj h
  exact Tk_retV rfl rfl (resA (vs := [v7]) rfl ⟨rfl, trivial⟩) [0] [] rfl rfl rfl ⟨v7, rfl, rfl, rfl⟩

set_option maxRecDepth 100000 in
set_option maxHeartbeats 4000000 in
theorem w_gmem_Check {l : List Region} {vl1 : Value} {r : Int} (h : gmem_Check l = some r) :
  Ctr Try.prog 30 #[vl1] [] [Fact.sl RegionS vl1 l]
   (fun rv own shr => rv = vI r ∧ own = [] ∧ shr = []) := by
 unfold gmem_Check at h
 refine Ctr.mk (args := [vl1]) Try.func30 rfl rfl (fun R0 w0 B => ?_)
 refine Tk_seq (Tk_region (Tops_step rfl (OpT_assign rfl rfl rfl rfl) ?_))
 refine Tops_nil (tZ [0] [] [0] rfl rfl rfl rfl ?_)
 refine Tk_seq (Tk_seq (Tk_region (Tops_step rfl (OpT_move rfl rfl rfl rfl) ?_)))
 refine Tops_step rfl (OpT_lenS rfl rfl rfl rfl Try.underlying61 (i := 0) rfl) ?_
 refine Tops_step rfl (OpT_bin rfl rfl rfl rfl rfl (bin_gtr_i (a := len l) (b := (16 : Int)))) ?_
 refine Tops_nil (tZ [0, 9] [] [0] rfl rfl rfl rfl ?_)
 rcases Bool.eq_false_or_eq_true (decide ((len l) > (16 : Int))) with hg1 | hg1
 ·replace h := br_t hg1 h
  refine Tk_condT (congrArg (fun b => some (Value.bool b)) hg1) ?_
  refine Tk_seq (Tk_region (Tops_step rfl (OpT_assign rfl rfl rfl rfl) ?_))
  refine Tops_nil (tZ [2] [] [] rfl rfl rfl rfl ?_)
  obtain rfl := Option.some.inj h
  exact Tk_retV rfl rfl (resA (vs := [vI (2 : Int)]) rfl ⟨rfl, trivial⟩) [] [] rfl rfl rfl ⟨rfl, rfl, rfl⟩
 ·replace h := br_f hg1 h
  refine Tk_condF (congrArg (fun b => some (Value.bool b)) hg1) ?_
  refine Tk_skip (Tk_seq (Tk_region (Tops_step rfl (OpT_assign rfl rfl rfl rfl) ?_)))
  refine Tops_nil (tZ [0, 3] [] [0] rfl rfl rfl rfl ?_)
  refine Tk_seq (Tk_seq (Tk_region (Tops_step rfl (OpT_move rfl rfl rfl rfl) ?_)))
  refine Tops_step rfl (OpT_lenS rfl rfl rfl rfl Try.underlying61 (i := 0) rfl) ?_
  refine Tops_step rfl (OpT_move rfl rfl rfl rfl) ?_
  refine Tops_nil (Tk_block (Tk_loopS (σ := UInt64 × Int) [0, 3, 10, 11, 12] [] [0] (fun s => ⟨[(0, some (vl1)), (3, some (vU64 s.1)), (10, some (vl1)), (11, some (vI (len l))), (12, some (vI s.2))], [], [Fact.sl RegionS vl1 l]⟩) (fun nf1 s => gmem_CheckL1 l nf1 s.1 s.2 = some r) fuel ((1048576 : UInt64), (0 : Int)) h rfl rfl rfl rfl rfl (fun s h => by cases h) ?_))
  rintro nf1 ⟨room1, x1⟩ h
  replace h : gmem_CheckL1B l (gmem_CheckL1 l nf1) room1 x1 = some r := h
  unfold gmem_CheckL1B at h
  refine Tk_seq (Tk_region (Tops_step rfl (OpT_bin rfl rfl rfl rfl rfl (bin_lss_i (a := x1) (b := len l))) ?_))
  refine Tops_nil (Tk_seq ?_)
  rcases Bool.eq_false_or_eq_true (decide (x1 < (len l))) with hg2 | hg2
  ·replace h := br_t hg2 h
   refine Tk_condT (congrArg (fun b => some (Value.bool b)) hg2) ?_
   refine Tk_skip (Tk_seq (Tk_block (Tk_seq (Tk_region (Tops_step rfl (OpT_move rfl rfl rfl rfl) ?_)))))
   obtain ⟨r1, hx1, h⟩ := ob_e h
   refine Tops_ex rfl (OpT_idxS rfl rfl rfl rfl rfl slF61 (i := 0) rfl hx1) fun p1 => ?_
   refine Tops_step rfl (OpT_loadPA (vs := [vU64 r1.At, vU64 r1.Len]) rfl rfl rfl rfl tyF60 (i := 1) rfl rfl) ?_
   refine Tops_ex rfl (OpT_alloc rfl rfl rfl tyZ60) fun b1 => ?_
   refine Tops_step rfl (OpT_assign rfl rfl rfl rfl) ?_
   refine Tops_step rfl (OpT_storeC (cs' := [vU64 r1.At, vU64 r1.Len]) rfl rfl rfl rfl tyF60 (i := 0) rfl rfl rfl (one_of rfl) rfl) ?_
   refine Tops_nil (tZ [0, 3, 10, 11, 12, 5, 4] [0] [0] rfl rfl rfl rfl ?_)
   refine Tk_seq (Tk_seq (Tk_region (Tops_step rfl (OpT_fieldC rfl rfl rfl rfl fldF60x1) ?_)))
   refine Tops_step rfl (OpT_loadC rfl rfl rfl rfl tyF30 (i := 0) rfl rfl) ?_
   refine Tops_step rfl (OpT_bin rfl rfl rfl rfl rfl (bin_lss_u64 (a := r1.Len) (b := (1 : UInt64)))) ?_
   refine Tops_step rfl (OpT_move rfl rfl rfl rfl) ?_
   rcases Bool.eq_false_or_eq_true (decide (r1.Len < (1 : UInt64))) with hg3 | hg3
   ·replace h := br_t hg3 h
    refine Tops_no rfl rfl (congrArg (fun b => some (Value.bool b)) hg3) rfl rfl ?_
    refine Tops_no rfl rfl (congrArg (fun b => some (Value.bool b)) hg3) rfl rfl ?_
    refine Tops_no rfl rfl (congrArg (fun b => some (Value.bool b)) hg3) rfl rfl ?_
    refine Tops_no rfl rfl (congrArg (fun b => some (Value.bool b)) hg3) rfl rfl ?_
    refine Tops_step rfl (OpT_pickT rfl rfl rfl (congrArg (fun b => some (Value.bool b)) hg3) rfl) ?_
    refine Tops_step rfl (OpT_move rfl rfl rfl rfl) ?_
    refine Tops_no rfl rfl rfl rfl rfl ?_
    refine Tops_no rfl rfl rfl rfl rfl ?_
    refine Tops_no rfl rfl rfl rfl rfl ?_
    refine Tops_no rfl rfl rfl rfl rfl ?_
    refine Tops_no rfl rfl rfl rfl rfl ?_
    refine Tops_no rfl rfl rfl rfl rfl ?_
    refine Tops_no rfl rfl rfl rfl rfl ?_
    refine Tops_step rfl (OpT_pickT rfl rfl rfl rfl rfl) ?_
    refine Tops_nil (tZ [0, 3, 10, 11, 12, 5, 4, 34] [0] [0] rfl rfl rfl rfl ?_)
    refine Tk_condT rfl ?_
    refine Tk_seq (Tk_region (Tops_step rfl (OpT_assign rfl rfl rfl rfl) ?_))
    refine Tops_nil (tZ [2] [] [] rfl rfl rfl rfl ?_)
    obtain rfl := Option.some.inj h
    exact Tk_retV rfl rfl (resA (vs := [vI (2 : Int)]) rfl ⟨rfl, trivial⟩) [] [] rfl rfl rfl ⟨rfl, rfl, rfl⟩
   ·replace h := br_f hg3 h
    refine Tops_yes rfl rfl (congrArg (fun b => some (Value.bool b)) hg3) (OpT_fieldC rfl rfl rfl rfl fldF60x1) ?_
    rintro _ rfl
    refine Tops_yes rfl rfl (congrArg (fun b => some (Value.bool b)) hg3) (OpT_loadC rfl rfl rfl rfl tyF30 (i := 0) rfl rfl) ?_
    rintro _ rfl
    refine Tops_yes rfl rfl (congrArg (fun b => some (Value.bool b)) hg3) (OpT_move rfl rfl rfl rfl) ?_
    rintro _ rfl
    refine Tops_yes rfl rfl (congrArg (fun b => some (Value.bool b)) hg3) (OpT_bin rfl rfl rfl rfl rfl (bin_gtr_u64 (a := r1.Len) (b := room1))) ?_
    rintro _ rfl
    refine Tops_step rfl (OpT_pickF rfl rfl rfl (congrArg (fun b => some (Value.bool b)) hg3) rfl) ?_
    refine Tops_step rfl (OpT_move rfl rfl rfl rfl) ?_
    rcases Bool.eq_false_or_eq_true (decide (r1.Len > room1)) with hg4 | hg4
    ·replace h := br_t hg4 h
     refine Tops_no rfl rfl (congrArg (fun b => some (Value.bool b)) hg4) rfl rfl ?_
     refine Tops_no rfl rfl (congrArg (fun b => some (Value.bool b)) hg4) rfl rfl ?_
     refine Tops_no rfl rfl (congrArg (fun b => some (Value.bool b)) hg4) rfl rfl ?_
     refine Tops_no rfl rfl (congrArg (fun b => some (Value.bool b)) hg4) rfl rfl ?_
     refine Tops_no rfl rfl (congrArg (fun b => some (Value.bool b)) hg4) rfl rfl ?_
     refine Tops_no rfl rfl (congrArg (fun b => some (Value.bool b)) hg4) rfl rfl ?_
     refine Tops_no rfl rfl (congrArg (fun b => some (Value.bool b)) hg4) rfl rfl ?_
     refine Tops_step rfl (OpT_pickT rfl rfl rfl (congrArg (fun b => some (Value.bool b)) hg4) rfl) ?_
     refine Tops_nil (tZ [0, 3, 10, 11, 12, 5, 4, 34] [0] [0] rfl rfl rfl rfl ?_)
     refine Tk_condT rfl ?_
     refine Tk_seq (Tk_region (Tops_step rfl (OpT_assign rfl rfl rfl rfl) ?_))
     refine Tops_nil (tZ [2] [] [] rfl rfl rfl rfl ?_)
     obtain rfl := Option.some.inj h
     exact Tk_retV rfl rfl (resA (vs := [vI (2 : Int)]) rfl ⟨rfl, trivial⟩) [] [] rfl rfl rfl ⟨rfl, rfl, rfl⟩
    ·replace h := br_f hg4 h
     refine Tops_yes rfl rfl (congrArg (fun b => some (Value.bool b)) hg4) (OpT_fieldC rfl rfl rfl rfl fldF60x1) ?_
     rintro _ rfl
     refine Tops_yes rfl rfl (congrArg (fun b => some (Value.bool b)) hg4) (OpT_loadC rfl rfl rfl rfl tyF30 (i := 0) rfl rfl) ?_
     rintro _ rfl
     refine Tops_yes rfl rfl (congrArg (fun b => some (Value.bool b)) hg4) (OpT_bin rfl rfl rfl rfl rfl (bin_sub_u64 (a := r1.Len) (b := (1 : UInt64)))) ?_
     rintro _ rfl
     refine Tops_yes rfl rfl (congrArg (fun b => some (Value.bool b)) hg4) (OpT_fieldC rfl rfl rfl rfl fldF60x0) ?_
     rintro _ rfl
     refine Tops_yes rfl rfl (congrArg (fun b => some (Value.bool b)) hg4) (OpT_loadC rfl rfl rfl rfl tyF30 (i := 0) rfl rfl) ?_
     rintro _ rfl
     refine Tops_yes rfl rfl (congrArg (fun b => some (Value.bool b)) hg4) (OpT_bin rfl rfl rfl rfl rfl (bin_sub_u64 (a := (18446744073709551615 : UInt64)) (b := r1.At))) ?_
     rintro _ rfl
     refine Tops_yes rfl rfl (congrArg (fun b => some (Value.bool b)) hg4) (OpT_bin rfl rfl rfl rfl rfl (bin_gtr_u64 (a := r1.Len - (1 : UInt64)) (b := (18446744073709551615 : UInt64) - r1.At))) ?_
     rintro _ rfl
     refine Tops_step rfl (OpT_pickF rfl rfl rfl (congrArg (fun b => some (Value.bool b)) hg4) rfl) ?_
     refine Tops_nil (tZ [0, 3, 10, 11, 12, 5, 4, 34] [0] [0] rfl rfl rfl rfl ?_)
     rcases Bool.eq_false_or_eq_true (decide ((r1.Len - (1 : UInt64)) > ((18446744073709551615 : UInt64) - r1.At))) with hg5 | hg5
     ·replace h := br_t hg5 h
      refine Tk_condT (congrArg (fun b => some (Value.bool b)) hg5) ?_
      refine Tk_seq (Tk_region (Tops_step rfl (OpT_assign rfl rfl rfl rfl) ?_))
      refine Tops_nil (tZ [2] [] [] rfl rfl rfl rfl ?_)
      obtain rfl := Option.some.inj h
      exact Tk_retV rfl rfl (resA (vs := [vI (2 : Int)]) rfl ⟨rfl, trivial⟩) [] [] rfl rfl rfl ⟨rfl, rfl, rfl⟩
     ·replace h := br_f hg5 h
      refine Tk_condF (congrArg (fun b => some (Value.bool b)) hg5) ?_
      refine Tk_skip (Tk_seq (Tk_region (Tops_step rfl (OpT_move rfl rfl rfl rfl) ?_)))
      refine Tops_step rfl (OpT_fieldC rfl rfl rfl rfl fldF60x1) ?_
      refine Tops_step rfl (OpT_loadC rfl rfl rfl rfl tyF30 (i := 0) rfl rfl) ?_
      refine Tops_step rfl (OpT_bin rfl rfl rfl rfl rfl (bin_sub_u64 (a := room1) (b := r1.Len))) ?_
      refine Tops_step rfl (OpT_assign rfl rfl rfl rfl) ?_
      refine Tops_nil (tZ [0, 3, 10, 11, 12, 5, 4] [0] [0] rfl rfl rfl rfl ?_)
      refine Tk_seq (Tk_region (Tops_step rfl (OpT_move rfl rfl rfl rfl) ?_))
      refine Tops_step rfl (OpT_bin rfl rfl rfl rfl rfl (bin_gtr_i (a := x1) (b := (0 : Int)))) ?_
      refine Tops_nil (tZ [0, 3, 10, 11, 12, 5, 4, 40] [0] [0] rfl rfl rfl rfl ?_)
      rcases Bool.eq_false_or_eq_true (decide (x1 > (0 : Int))) with hg6 | hg6
      ·replace h := br_t hg6 h
       refine Tk_condT (congrArg (fun b => some (Value.bool b)) hg6) ?_
       refine Tk_seq (Tk_region (Tops_step rfl (OpT_move rfl rfl rfl rfl) ?_))
       refine Tops_step rfl (OpT_move rfl rfl rfl rfl) ?_
       refine Tops_step rfl (OpT_bin rfl rfl rfl rfl rfl (bin_sub_i (a := x1) (b := (1 : Int)))) ?_
       obtain ⟨r2, hx2, h⟩ := ob_e h
       refine Tops_ex rfl (OpT_idxS rfl rfl rfl rfl rfl slF61 (i := 0) rfl hx2) fun p2 => ?_
       refine Tops_step rfl (OpT_loadPA (vs := [vU64 r2.At, vU64 r2.Len]) rfl rfl rfl rfl tyF60 (i := 1) rfl rfl) ?_
       refine Tops_ex rfl (OpT_alloc rfl rfl rfl tyZ60) fun b2 => ?_
       refine Tops_step rfl (OpT_storeC (cs' := [vU64 r2.At, vU64 r2.Len]) rfl rfl rfl rfl tyF60 (i := 1) rfl rfl rfl (one_of rfl) rfl) ?_
       refine Tops_nil (tZ [0, 3, 10, 11, 12, 5, 6] [0, 1] [0] rfl rfl rfl rfl ?_)
       refine Tk_seq (Tk_region (Tops_step rfl (OpT_fieldC rfl rfl rfl rfl fldF60x0) ?_))
       refine Tops_step rfl (OpT_loadC rfl rfl rfl rfl tyF30 (i := 0) rfl rfl) ?_
       refine Tops_step rfl (OpT_fieldC rfl rfl rfl rfl fldF60x0) ?_
       refine Tops_step rfl (OpT_loadC rfl rfl rfl rfl tyF30 (i := 1) rfl rfl) ?_
       refine Tops_step rfl (OpT_bin rfl rfl rfl rfl rfl (bin_leq_u64 (a := r1.At) (b := r2.At))) ?_
       refine Tops_step rfl (OpT_move rfl rfl rfl rfl) ?_
       rcases Bool.eq_false_or_eq_true (decide (r1.At ≤ r2.At)) with hg7 | hg7
       ·replace h := br_t hg7 h
        refine Tops_no rfl rfl (congrArg (fun b => some (Value.bool b)) hg7) rfl rfl ?_
        refine Tops_no rfl rfl (congrArg (fun b => some (Value.bool b)) hg7) rfl rfl ?_
        refine Tops_no rfl rfl (congrArg (fun b => some (Value.bool b)) hg7) rfl rfl ?_
        refine Tops_no rfl rfl (congrArg (fun b => some (Value.bool b)) hg7) rfl rfl ?_
        refine Tops_no rfl rfl (congrArg (fun b => some (Value.bool b)) hg7) rfl rfl ?_
        refine Tops_no rfl rfl (congrArg (fun b => some (Value.bool b)) hg7) rfl rfl ?_
        refine Tops_no rfl rfl (congrArg (fun b => some (Value.bool b)) hg7) rfl rfl ?_
        refine Tops_no rfl rfl (congrArg (fun b => some (Value.bool b)) hg7) rfl rfl ?_
        refine Tops_step rfl (OpT_pickT rfl rfl rfl (congrArg (fun b => some (Value.bool b)) hg7) rfl) ?_
        refine Tops_nil (tZ [0, 3, 10, 11, 12, 60] [] [0] rfl rfl rfl rfl ?_)
        refine Tk_condT rfl ?_
        refine Tk_seq (Tk_region (Tops_step rfl (OpT_assign rfl rfl rfl rfl) ?_))
        refine Tops_nil (tZ [2] [] [] rfl rfl rfl rfl ?_)
        obtain rfl := Option.some.inj h
        exact Tk_retV rfl rfl (resA (vs := [vI (2 : Int)]) rfl ⟨rfl, trivial⟩) [] [] rfl rfl rfl ⟨rfl, rfl, rfl⟩
       ·replace h := br_f hg7 h
        refine Tops_yes rfl rfl (congrArg (fun b => some (Value.bool b)) hg7) (OpT_fieldC rfl rfl rfl rfl fldF60x0) ?_
        rintro _ rfl
        refine Tops_yes rfl rfl (congrArg (fun b => some (Value.bool b)) hg7) (OpT_loadC rfl rfl rfl rfl tyF30 (i := 0) rfl rfl) ?_
        rintro _ rfl
        refine Tops_yes rfl rfl (congrArg (fun b => some (Value.bool b)) hg7) (OpT_fieldC rfl rfl rfl rfl fldF60x0) ?_
        rintro _ rfl
        refine Tops_yes rfl rfl (congrArg (fun b => some (Value.bool b)) hg7) (OpT_loadC rfl rfl rfl rfl tyF30 (i := 1) rfl rfl) ?_
        rintro _ rfl
        refine Tops_yes rfl rfl (congrArg (fun b => some (Value.bool b)) hg7) (OpT_bin rfl rfl rfl rfl rfl (bin_sub_u64 (a := r1.At) (b := r2.At))) ?_
        rintro _ rfl
        refine Tops_yes rfl rfl (congrArg (fun b => some (Value.bool b)) hg7) (OpT_fieldC rfl rfl rfl rfl fldF60x1) ?_
        rintro _ rfl
        refine Tops_yes rfl rfl (congrArg (fun b => some (Value.bool b)) hg7) (OpT_loadC rfl rfl rfl rfl tyF30 (i := 1) rfl rfl) ?_
        rintro _ rfl
        refine Tops_yes rfl rfl (congrArg (fun b => some (Value.bool b)) hg7) (OpT_bin rfl rfl rfl rfl rfl (bin_lss_u64 (a := r1.At - r2.At) (b := r2.Len))) ?_
        rintro _ rfl
        refine Tops_step rfl (OpT_pickF rfl rfl rfl (congrArg (fun b => some (Value.bool b)) hg7) rfl) ?_
        refine Tops_nil (tZ [0, 3, 10, 11, 12, 60] [] [0] rfl rfl rfl rfl ?_)
        rcases Bool.eq_false_or_eq_true (decide ((r1.At - r2.At) < r2.Len)) with hg8 | hg8
        ·replace h := br_t hg8 h
         refine Tk_condT (congrArg (fun b => some (Value.bool b)) hg8) ?_
         refine Tk_seq (Tk_region (Tops_step rfl (OpT_assign rfl rfl rfl rfl) ?_))
         refine Tops_nil (tZ [2] [] [] rfl rfl rfl rfl ?_)
         obtain rfl := Option.some.inj h
         exact Tk_retV rfl rfl (resA (vs := [vI (2 : Int)]) rfl ⟨rfl, trivial⟩) [] [] rfl rfl rfl ⟨rfl, rfl, rfl⟩
        ·replace h := br_f hg8 h
         refine Tk_condF (congrArg (fun b => some (Value.bool b)) hg8) ?_
         refine Tk_skip (Tk_blk (Tk_region (Tops_step rfl (OpT_bin rfl rfl rfl rfl rfl (bin_add_i (a := x1) (b := (1 : Int)))) ?_)))
         refine Tops_step rfl (OpT_move rfl rfl rfl rfl) ?_
         refine Tops_nil (tZ [0, 3, 10, 11, 12] [] [0] rfl rfl rfl rfl ?_)
         exact Tk_backS (room1 - r1.Len, wi (x1 + (1 : Int))) h [0, 3, 10, 11, 12] [] [0] rfl rfl rfl rfl rfl
      ·replace h := br_f hg6 h
       refine Tk_condF (congrArg (fun b => some (Value.bool b)) hg6) ?_
       refine Tk_skip (Tk_blk (Tk_region (Tops_step rfl (OpT_bin rfl rfl rfl rfl rfl (bin_add_i (a := x1) (b := (1 : Int)))) ?_)))
       refine Tops_step rfl (OpT_move rfl rfl rfl rfl) ?_
       refine Tops_nil (tZ [0, 3, 10, 11, 12] [] [0] rfl rfl rfl rfl ?_)
       exact Tk_backS (room1 - r1.Len, wi (x1 + (1 : Int))) h [0, 3, 10, 11, 12] [] [0] rfl rfl rfl rfl rfl
  ·replace h := br_f hg2 h
   refine Tk_condF (congrArg (fun b => some (Value.bool b)) hg2) ?_
   refine Tk_exit _ rfl ?_
   refine Tk_seq (Tk_region (Tops_step rfl (OpT_assign rfl rfl rfl rfl) ?_))
   refine Tops_nil (tZ [2] [] [] rfl rfl rfl rfl ?_)
   obtain rfl := Option.some.inj h
   exact Tk_retV rfl rfl (resA (vs := [vI (0 : Int)]) rfl ⟨rfl, trivial⟩) [] [] rfl rfl rfl ⟨rfl, rfl, rfl⟩

set_option maxRecDepth 100000 in
set_option maxHeartbeats 4000000 in
theorem w_slices_Clone_apiRegionapiRegion {sp0 : List Region} {vsp01 : Value} {r : (List Region)} (h : slices_Clone_apiRegionapiRegion sp0 = some r) :
  Ctr Try.prog 31 #[vsp01] [] [Fact.sl RegionS vsp01 sp0]
   (fun rv own shr => ∃ (w1 : Value), rv = w1 ∧ own = [(rowS RegionS w1 r)] ∧ shr = []) := by
 unfold slices_Clone_apiRegionapiRegion at h
 refine Ctr.mk (args := [vsp01]) Try.func31 rfl rfl (fun R0 w0 B => ?_)
 refine Tk_seq (Tk_region (Tops_step rfl (OpT_assign rfl rfl rfl rfl) ?_))
 refine Tops_nil (tZ [0] [] [0] rfl rfl rfl rfl ?_)
 refine Tk_seq (Tk_seq (Tk_region (Tops_step rfl (OpT_move rfl rfl rfl rfl) ?_)))
 refine Tops_exP rfl (OpT_eqNil rfl rfl rfl (.inl rfl) rfl rfl Try.underlying61 (i := 0) rfl) ?_
 rintro _ ⟨q1, hq1, rfl⟩
 refine Tops_nil (tZ [0, 4] [] [0] rfl rfl rfl rfl ?_)
 rcases Bool.eq_false_or_eq_true q1 with hg1 | hg1
 ·obtain rfl := hq1 hg1
  replace h : some ([] : List Region) = some r := h
  refine Tk_condT (congrArg (fun b => some (Value.bool b)) hg1) ?_
  refine Tk_seq (Tk_region (Tops_step rfl (OpT_assign rfl rfl rfl rfl) ?_))
  refine Tops_nil (tZ [2] [] [] rfl rfl rfl rfl ?_)
  refine Tk_nilrow RegionS ?_
  obtain rfl := Option.some.inj h
  exact Tk_retV rfl rfl (resA (vs := [.slice none 0 0]) rfl ⟨rfl, trivial⟩) [0] [] rfl rfl rfl ⟨(.slice none 0 0), rfl, rfl, rfl⟩
 ·refine Tk_condF (congrArg (fun b => some (Value.bool b)) hg1) ?_
  refine Tk_skip (Tk_seq (Tk_region (Tops_ex rfl (OpT_buildSlice (S := RegionS) (xs := ([] : List Region)) (css := []) (cs := []) (e := 60) rfl rfl rfl rfl (bldF slF61 (by decide) (by kernel_rfl)) rfl rfl rfl rfl (rel_plainD (S := RegionS) (xs := ([] : List Region)) (css := []) rfl rfl)) fun v1 => ?_)))
  refine Tops_step rfl (OpT_move rfl rfl rfl rfl) ?_
  obtain ⟨hc1, h⟩ := chk_e h
  refine Tops_ex rfl (OpT_append rfl rfl rfl rfl rfl slF61 (i := 0) (j := 0) rfl rfl hc1) fun v2 => ?_
  refine Tops_step rfl (OpT_assign rfl rfl rfl rfl) ?_
  refine Tops_nil (tZ [2] [0] [] rfl rfl rfl rfl ?_)
  obtain rfl := Option.some.inj h
  exact Tk_retV rfl rfl (resA (vs := [v2]) rfl ⟨rfl, trivial⟩) [0] [] rfl rfl rfl ⟨v2, rfl, rfl, rfl⟩

theorem ws_slices_Clone_apiRegionapiRegion {sp0 : List Region} {vsp01 : Value} {r : (List Region)} (h : slices_Clone_apiRegionapiRegion sp0 = some r) :
  Ctr Try.prog 31 #[vsp01] [] [Fact.sl RegionS vsp01 sp0]
   (fun rv own shr => ∃ (w1 : Value), rv = w1 ∧ own = [] ∧ shr = [Fact.sl RegionS w1 r]) :=
 Ctr.sh (w_slices_Clone_apiRegionapiRegion h) (by rintro w1 _ _ ⟨_, rfl, rfl, rfl⟩; exact ⟨[], _, _, _, _, rfl, w1, rfl, rfl, rfl⟩)

set_option maxRecDepth 100000 in
set_option maxHeartbeats 4000000 in
theorem w_gmem_New {l : List Region} {vl1 : Value} {r : ((Option gmem_Mem) × Int)} (h : gmem_New l = some r) :
  Ctr Try.prog 19 #[vl1] [] [Fact.sl RegionS vl1 l]
   (fun rv own shr => ∃ (w1 : Value), rv = .tuple #[w1, vI r.2] ∧ own = [(optR 89 RegionS u8S true gmem_Mem.l gmem_Mem.b w1 r.1)] ∧ shr = []) := by
 unfold gmem_New at h
 refine Ctr.mk (args := [vl1]) Try.func19 rfl rfl (fun R0 w0 B => ?_)
 refine Tk_seq (Tk_region (Tops_step rfl (OpT_assign rfl rfl rfl rfl) ?_))
 refine Tops_step rfl (OpT_assign rfl rfl rfl rfl) ?_
 refine Tops_nil (tZ [0] [] [0] rfl rfl rfl rfl ?_)
 refine Tk_seq (Tk_seq (Tk_region (Tops_step rfl (OpT_move rfl rfl rfl rfl) ?_)))
 obtain ⟨check1, hx1, h⟩ := ob_e h
 refine Tops_exP rfl (OpT_call (w_gmem_Check hx1) [] [0] rfl rfl rfl rfl rfl callee30 rfl rfl rfl rfl) ?_
 rintro _ ⟨_, _, _, ⟨rfl, rfl, rfl⟩, rfl⟩
 refine Tops_step rfl (OpT_assign rfl rfl rfl rfl) ?_
 refine Tops_nil (tZ [0, 4] [] [0] rfl rfl rfl rfl ?_)
 refine Tk_seq (Tk_region (Tops_step rfl (OpT_move rfl rfl rfl rfl) ?_))
 refine Tops_step rfl (OpT_bin rfl rfl rfl rfl rfl (bin_neq_i (a := check1) (b := (0 : Int)))) ?_
 refine Tops_nil (tZ [0, 4, 11] [] [0] rfl rfl rfl rfl ?_)
 rcases Bool.eq_false_or_eq_true (check1 != (0 : Int)) with hg1 | hg1
 ·replace h := br_t hg1 h
  refine Tk_condT (congrArg (fun b => some (Value.bool b)) hg1) ?_
  refine Tk_seq (Tk_region (Tops_step rfl (OpT_move rfl rfl rfl rfl) ?_))
  refine Tops_step rfl (OpT_assign rfl rfl rfl rfl) ?_
  refine Tops_step rfl (OpT_assign rfl rfl rfl rfl) ?_
  refine Tops_nil (tZ [2, 3] [] [] rfl rfl rfl rfl ?_)
  refine Tk_nilopt 89 RegionS u8S true gmem_Mem.l gmem_Mem.b ?_
  obtain rfl := Option.some.inj h
  exact Tk_retV rfl rfl (resA (vs := [.pointer none, vI check1]) rfl ⟨rfl, rfl, trivial⟩) [0] [] rfl rfl rfl ⟨(.pointer none), rfl, rfl, rfl⟩
 ·replace h := br_f hg1 h
  refine Tk_condF (congrArg (fun b => some (Value.bool b)) hg1) ?_
  refine Tk_skip (Tk_seq (Tk_drawT (by kernel_rfl) ?_))
  refine TA_tb [0, 1, 0, 4, 0, 16, 48, 124, 255, 511, 1023] (by kernel_rfl) fun htb => ?_
  refine aZ [0] [] [0] rfl rfl rfl rfl ?_
  obtain ⟨region1, hx2, h⟩ := ob_e h
  obtain ⟨hc1, h⟩ := chk_e h
  refine TA_seg (lo := 0) (hi := 8) htb rfl rfl (by kernel_rfl) (fun c L a w => ∃ (v1 : Value), ∃ (v2 : Value), ∃ (vs1 : List Value), Sat c ⟨[(0, some (vl1)), (13, bif L 0 then some (vl1) else none), (14, bif L 1 then some (v1) else none), (15, bif L 2 then some (vl1) else none), (16, bif L 3 then some (vI (len l)) else none), (17, bif L 4 then some (vl1) else none), (18, bif L 5 then some (vI (len l)) else none), (19, bif L 6 then some (vI (wi ((len l) + (1 : Int)))) else none), (20, bif L 7 then some (v2) else none)], [(bif L 7 then some (rowsX u8S true v2 vs1 (List.replicate (Int.toNat (len l)) [] : List (List UInt8)) none) else none : Option Res)], [Fact.sl RegionS vl1 l, (bif L 1 then Fact.sl RegionS v1 region1 else Fact.tt)]⟩ a w) [([], [1]), ([0], []), ([], [3, 7]), ([2], [7]), ([], [5, 6, 7]), ([4], [6, 7]), ([4, 5], [7]), ([2, 3, 4, 5, 6], [])] rfl (by kernel_rfl) ?_ (steps_cons ?_ (steps_cons ?_ (steps_cons ?_ (steps_cons ?_ (steps_cons ?_ (steps_cons ?_ (steps_cons ?_ (steps_cons ?_ (steps_nil))))))))) ?_
  ·intro a w hs
   exact ⟨undef, undef, [], hs.startF [13, 14, 15, 16, 17, 18, 19, 20] [0] [0, 1] rfl rfl rfl rfl⟩
  ·intro L a w hv K Q hK
   obtain ⟨v1, v2, vs1, hs⟩ := hv
   refine wpOp_go rfl rfl hs (OpT_move rfl rfl rfl rfl) ?_
   rintro _ rfl a' w' hs'
   exact hK a' w' ⟨v1, v2, vs1, hs'.putF (i := 1) rfl [0] [0, 1] rfl rfl rfl rfl⟩
  ·intro L a w hv K Q hK
   obtain ⟨v1, v2, vs1, hs⟩ := hv
   refine wpOp_go rfl rfl hs (OpT_call (ws_slices_Clone_apiRegionapiRegion hx2) [] [0] rfl rfl rfl rfl rfl callee31 rfl rfl rfl rfl) ?_
   rintro _ ⟨v1', _, _, ⟨_, rfl, rfl, rfl⟩, rfl⟩ a' w' hs'
   exact hK a' w' ⟨v1', v2, vs1, hs'.putF (i := 2) rfl [0] [0, 2] rfl rfl rfl rfl⟩
  ·intro L a w hv K Q hK
   obtain ⟨v1, v2, vs1, hs⟩ := hv
   refine wpOp_go rfl rfl hs (OpT_move rfl rfl rfl rfl) ?_
   rintro _ rfl a' w' hs'
   exact hK a' w' ⟨v1, v2, vs1, hs'.putF (i := 3) rfl [0] [0, 1] rfl rfl rfl rfl⟩
  ·intro L a w hv K Q hK
   obtain ⟨v1, v2, vs1, hs⟩ := hv
   refine wpOp_go rfl rfl hs (OpT_lenS rfl rfl rfl rfl Try.underlying61 (i := 0) rfl) ?_
   rintro _ rfl a' w' hs'
   exact hK a' w' ⟨v1, v2, vs1, hs'.putF (i := 4) rfl [0] [0, 1] rfl rfl rfl rfl⟩
  ·intro L a w hv K Q hK
   obtain ⟨v1, v2, vs1, hs⟩ := hv
   refine wpOp_go rfl rfl hs (OpT_move rfl rfl rfl rfl) ?_
   rintro _ rfl a' w' hs'
   exact hK a' w' ⟨v1, v2, vs1, hs'.putF (i := 5) rfl [0] [0, 1] rfl rfl rfl rfl⟩
  ·intro L a w hv K Q hK
   obtain ⟨v1, v2, vs1, hs⟩ := hv
   refine wpOp_go rfl rfl hs (OpT_lenS rfl rfl rfl rfl Try.underlying61 (i := 0) rfl) ?_
   rintro _ rfl a' w' hs'
   exact hK a' w' ⟨v1, v2, vs1, hs'.putF (i := 6) rfl [0] [0, 1] rfl rfl rfl rfl⟩
  ·intro L a w hv K Q hK
   obtain ⟨v1, v2, vs1, hs⟩ := hv
   refine wpOp_go rfl rfl hs (OpT_bin rfl rfl rfl rfl rfl (bin_add_i (a := len l) (b := (1 : Int)))) ?_
   rintro _ rfl a' w' hs'
   exact hK a' w' ⟨v1, v2, vs1, hs'.putF (i := 7) rfl [0] [0, 1] rfl rfl rfl rfl⟩
  ·intro L a w hv K Q hK
   obtain ⟨v1, v2, vs1, hs⟩ := hv
   refine wpOp_go rfl rfl hs (OpT_makeRows u8S rfl rfl rfl rfl rfl slF87 hc1) ?_
   rintro _ ⟨v2', vs1', rfl⟩ a' w' hs'
   exact hK a' w' ⟨v1, v2', vs1', hs'.putF (i := 8) rfl [1] [0, 1] rfl rfl rfl rfl⟩
  ·intro L a w hL hv
   rw [allTrue hL] at hv
   obtain ⟨v1, v2, vs1, hs⟩ := hv
   refine gZ hs [0, 14, 20] [0] [0, 1] rfl rfl rfl rfl ?_
   clear hs hL
   refine TA_step htb (by kernel_rfl) rfl rfl (OpT_build2 (fun z0 z1 => [(0, z0), (1, z1)]) (fun z0 z1 => [z0, z1]) rfl rfl rfl rfl (is_sl (i := 1) rfl) (is_rows (i := 0) rfl) (by intros; kernel_rfl)) ?_
   refine TA_ex htb (by kernel_rfl) rfl rfl (OpT_box rfl rfl rfl rfl) fun b1 => ?_
   refine TA_step htb (by kernel_rfl) rfl rfl (OpT_assign rfl rfl rfl rfl) ?_
   refine TA_end rfl ?_
   refine tZ [0, 5] [0, 1] [0, 1] rfl rfl rfl rfl ?_
   refine Tk_seq (Tk_seq (Tk_region (Tops_step rfl (OpT_move rfl rfl rfl rfl) ?_)))
   refine Tops_step rfl (OpT_lenS rfl rfl rfl rfl Try.underlying61 (i := 0) rfl) ?_
   refine Tops_step rfl (OpT_move rfl rfl rfl rfl) ?_
   refine Tops_nil (tZ [5, 23, 24, 25] [0, 1] [0, 1] rfl rfl rfl rfl ?_)
   refine Tk_block (Tk_loopS (σ := (List (List UInt8)) × Int × Value × (List Value)) [5, 23, 24, 25] [1, 0] [1, 0] (fun s => ⟨[(5, some (.pointer (some ⟨b1, 0, none⟩))), (23, some (vl1)), (24, some (vI (len l))), (25, some (vI s.2.1))], [some (cellsR b1 89 [v1, s.2.2.1]), some (rowsX u8S true s.2.2.1 s.2.2.2 s.1 none)], [Fact.sl RegionS v1 region1, Fact.sl RegionS vl1 l]⟩) (fun nf1 s => gmem_NewL1 l region1 nf1 s.1 s.2.1 = some r) fuel ((List.replicate (Int.toNat (len l)) [] : List (List UInt8)), (0 : Int), v2, vs1) h rfl rfl rfl rfl rfl (fun s h => by cases h) ?_)
   rintro nf1 ⟨rows1, x1, v3, vs2⟩ h
   replace h : gmem_NewL1B l region1 (gmem_NewL1 l region1 nf1) rows1 x1 = some r := h
   unfold gmem_NewL1B at h
   refine Tk_seq (Tk_region (Tops_step rfl (OpT_bin rfl rfl rfl rfl rfl (bin_lss_i (a := x1) (b := len l))) ?_))
   refine Tops_nil (Tk_seq ?_)
   rcases Bool.eq_false_or_eq_true (decide (x1 < (len l))) with hg2 | hg2
   ·replace h := br_t hg2 h
    refine Tk_condT (congrArg (fun b => some (Value.bool b)) hg2) ?_
    refine Tk_skip (Tk_seq (Tk_block (Tk_seq (Tk_region (Tops_step rfl (OpT_move rfl rfl rfl rfl) ?_)))))
    obtain ⟨r1, hx3, h⟩ := ob_e h
    refine Tops_ex rfl (OpT_idxS rfl rfl rfl rfl rfl slF61 (i := 1) rfl hx3) fun p1 => ?_
    refine Tops_step rfl (OpT_loadPA (vs := [vU64 r1.At, vU64 r1.Len]) rfl rfl rfl rfl tyF60 (i := 2) rfl rfl) ?_
    refine Tops_ex rfl (OpT_alloc rfl rfl rfl tyZ60) fun b2 => ?_
    refine Tops_step rfl (OpT_assign rfl rfl rfl rfl) ?_
    refine Tops_step rfl (OpT_storeC (cs' := [vU64 r1.At, vU64 r1.Len]) rfl rfl rfl rfl tyF60 (i := 2) rfl rfl rfl (one_of rfl) rfl) ?_
    refine Tops_nil (tZ [5, 23, 24, 25, 7, 6] [0, 1, 2] [0, 1] rfl rfl rfl rfl ?_)
    refine Tk_drawT (by kernel_rfl) ?_
    refine TA_tb [0, 1, 3, 7, 0, 0, 32, 96, 255, 511] (by kernel_rfl) fun htb => ?_
    obtain ⟨hc2, h⟩ := chk_e h
    refine TA_seg (lo := 0) (hi := 8) htb rfl rfl (by kernel_rfl) (fun c L a w => ∃ (v4 : Value), Sat c ⟨[(5, some (.pointer (some ⟨b1, 0, none⟩))), (23, some (vl1)), (24, some (vI (len l))), (25, some (vI x1)), (7, some (.pointer (some ⟨b2, 0, none⟩))), (6, some (vI x1)), (30, bif L 0 then some (.pointer (some ⟨b1, 0, none⟩)) else none), (31, bif L 1 then some (.pointer (some ⟨b1, 0, none⟩)) else none), (32, bif L 2 then some (.pointer (some ⟨b1, 1, none⟩)) else none), (33, bif L 3 then some (v3) else none), (34, bif L 4 then some (vI x1) else none), (35, bif L 5 then some (.pointer (some ⟨b2, 1, none⟩)) else none), (36, bif L 6 then some (vU64 r1.Len) else none), (37, bif L 7 then some (v4) else none)], [(some (cellsR b1 89 [v1, v3]) : Option Res), (some (rowsX u8S true v3 vs2 rows1 none) : Option Res), (some (cellsR b2 60 [vU64 r1.At, vU64 r1.Len]) : Option Res), (bif L 7 then some (rowS u8S v4 (List.replicate (Int.toNat (r1.Len.toNat : Int)) (0 : UInt8))) else none : Option Res)], [Fact.sl RegionS v1 region1, Fact.sl RegionS vl1 l]⟩ a w) [([], [1, 2, 3]), ([0], [2, 3]), ([0, 1], [3]), ([0, 1, 2], []), ([], []), ([], [6, 7]), ([5], [7]), ([5, 6], [])] rfl (by kernel_rfl) ?_ (steps_cons ?_ (steps_cons ?_ (steps_cons ?_ (steps_cons ?_ (steps_cons ?_ (steps_cons ?_ (steps_cons ?_ (steps_cons ?_ (steps_nil))))))))) ?_
    ·intro a w hs
     exact ⟨undef, hs.startF [30, 31, 32, 33, 34, 35, 36, 37] [0, 1, 2, 3] [0, 1] rfl rfl rfl rfl⟩
    ·intro L a w hv K Q hK
     obtain ⟨v4, hs⟩ := hv
     refine wpOp_go rfl rfl hs (OpT_move rfl rfl rfl rfl) ?_
     rintro _ rfl a' w' hs'
     exact hK a' w' ⟨v4, hs'.putF (i := 6) rfl [0, 1, 2, 3] [0, 1] rfl rfl rfl rfl⟩
    ·intro L a w hv K Q hK
     obtain ⟨v4, hs⟩ := hv
     refine wpOp_go rfl rfl hs (OpT_nilCheckP rfl rfl rfl rfl) ?_
     rintro _ rfl a' w' hs'
     exact hK a' w' ⟨v4, hs'.putF (i := 7) rfl [0, 1, 2, 3] [0, 1] rfl rfl rfl rfl⟩
    ·intro L a w hv K Q hK
     obtain ⟨v4, hs⟩ := hv
     refine wpOp_go rfl rfl hs (OpT_fieldC rfl rfl rfl rfl fldF89x1) ?_
     rintro _ rfl a' w' hs'
     exact hK a' w' ⟨v4, hs'.putF (i := 8) rfl [0, 1, 2, 3] [0, 1] rfl rfl rfl rfl⟩
    ·intro L a w hv K Q hK
     obtain ⟨v4, hs⟩ := hv
     refine wpOp_go rfl rfl hs (OpT_loadC rfl rfl rfl rfl tyF87 (i := 0) rfl rfl) ?_
     rintro _ rfl a' w' hs'
     exact hK a' w' ⟨v4, hs'.putF (i := 9) rfl [0, 1, 2, 3] [0, 1] rfl rfl rfl rfl⟩
    ·intro L a w hv K Q hK
     obtain ⟨v4, hs⟩ := hv
     refine wpOp_go rfl rfl hs (OpT_move rfl rfl rfl rfl) ?_
     rintro _ rfl a' w' hs'
     exact hK a' w' ⟨v4, hs'.putF (i := 10) rfl [0, 1, 2, 3] [0, 1] rfl rfl rfl rfl⟩
    ·intro L a w hv K Q hK
     obtain ⟨v4, hs⟩ := hv
     refine wpOp_go rfl rfl hs (OpT_fieldC rfl rfl rfl rfl fldF60x1) ?_
     rintro _ rfl a' w' hs'
     exact hK a' w' ⟨v4, hs'.putF (i := 11) rfl [0, 1, 2, 3] [0, 1] rfl rfl rfl rfl⟩
    ·intro L a w hv K Q hK
     obtain ⟨v4, hs⟩ := hv
     refine wpOp_go rfl rfl hs (OpT_loadC rfl rfl rfl rfl tyF30 (i := 2) rfl rfl) ?_
     rintro _ rfl a' w' hs'
     exact hK a' w' ⟨v4, hs'.putF (i := 12) rfl [0, 1, 2, 3] [0, 1] rfl rfl rfl rfl⟩
    ·intro L a w hv K Q hK
     obtain ⟨v4, hs⟩ := hv
     refine wpOp_go rfl rfl hs (OpT_makeK u8S rfl (u := (0 : UInt8)) rfl rfl rfl rfl rfl slF26 rfl hc2) ?_
     rintro _ ⟨v4', rfl⟩ a' w' hs'
     exact hK a' w' ⟨v4', hs'.putF (i := 13) rfl [0, 1, 2, 4] [0, 1] rfl rfl rfl rfl⟩
    ·intro L a w hL hv
     rw [allTrue hL] at hv
     obtain ⟨v4, hs⟩ := hv
     refine gZ hs [5, 23, 24, 25, 33, 34, 37] [0, 1, 3] [0, 1] rfl rfl rfl rfl ?_
     clear hs hL
     obtain ⟨row1, hx4, h⟩ := ob_e h
     refine TA_step htb (by kernel_rfl) rfl rfl (OpT_idxRows rfl rfl rfl rfl rfl slF87 (i := 1) rfl hx4) ?_
     refine TA_ex htb (by kernel_rfl) rfl rfl (OpT_storeRow (m := x1) rfl rfl rfl rfl tyF26 (i := 1) (q := 2) rfl rfl rfl hx4) fun vs3 => ?_
     refine TA_end rfl ?_
     refine tZ [5, 23, 24, 25] [0, 1] [0, 1] rfl rfl rfl rfl ?_
     refine Tk_blk (Tk_region (Tops_step rfl (OpT_bin rfl rfl rfl rfl rfl (bin_add_i (a := x1) (b := (1 : Int)))) ?_))
     refine Tops_step rfl (OpT_move rfl rfl rfl rfl) ?_
     refine Tops_nil (tZ [5, 23, 24, 25] [0, 1] [0, 1] rfl rfl rfl rfl ?_)
     exact Tk_backS (rows1.set (Int.toNat x1) (List.replicate (Int.toNat (r1.Len.toNat : Int)) (0 : UInt8)), wi (x1 + (1 : Int)), v3, vs3) h [5, 23, 24, 25] [0, 1] [0, 1] rfl rfl rfl rfl rfl
   ·replace h := br_f hg2 h
    refine Tk_condF (congrArg (fun b => some (Value.bool b)) hg2) ?_
    refine Tk_exit _ rfl ?_
    refine Tk_seq (Tk_region (Tops_step rfl (OpT_move rfl rfl rfl rfl) ?_))
    refine Tops_step rfl (OpT_assign rfl rfl rfl rfl) ?_
    refine Tops_step rfl (OpT_assign rfl rfl rfl rfl) ?_
    refine Tops_nil (tZ [2, 3] [0, 1] [0] rfl rfl rfl rfl ?_)
    refine Tk_vs (vs_fold (fl := gmem_Mem.l) (fb := gmem_Mem.b) (gmem_Mem.mk region1 rows1) (i := 0) (j := 1) rfl rfl rfl (q := 0) rfl rfl rfl) ?_
    obtain rfl := Option.some.inj h
    exact Tk_retV rfl rfl (resA (vs := [.pointer (some ⟨b1, 0, none⟩), vI (0 : Int)]) rfl ⟨rfl, rfl, trivial⟩) [0] [] rfl rfl rfl ⟨(.pointer (some ⟨b1, 0, none⟩)), rfl, rfl, rfl⟩

set_option maxRecDepth 100000 in
set_option maxHeartbeats 4000000 in
theorem w_gmem_Mem_made {m : gmem_Mem} {b_m : Nat} {vm1 : Value} {vm2 : Value} {vsm1 : List Value} {r : Bool} (h : gmem_Mem_made m = some r) :
  Ctr Try.prog 32 #[.pointer (some ⟨b_m, 0, none⟩)] [(cellsR b_m 89 [vm1, vm2]), (rowsX u8S true vm2 vsm1 m.b none)] [Fact.sl RegionS vm1 m.l]
   (fun rv own shr => rv = vB r ∧ own = [(cellsR b_m 89 [vm1, vm2]), (rowsX u8S true vm2 vsm1 m.b none)] ∧ shr = []) := by
 unfold gmem_Mem_made at h
 refine Ctr.mk (args := [.pointer (some ⟨b_m, 0, none⟩)]) Try.func32 rfl rfl (fun R0 w0 B => ?_)
 refine Tk_seq (Tk_region (Tops_step rfl (OpT_assign rfl rfl rfl rfl) ?_))
 refine Tops_nil (tZ [0] [0, 1] [0] rfl rfl rfl rfl ?_)
 refine Tk_seq (Tk_region (Tops_step rfl (OpT_move rfl rfl rfl rfl) ?_))
 refine Tops_step rfl (OpT_ptrNil rfl rfl rfl (.inr rfl) rfl rfl ptrF56) ?_
 refine Tops_step rfl (OpT_move rfl rfl rfl rfl) ?_
 refine Tops_yes rfl rfl rfl (OpT_move rfl rfl rfl rfl) ?_
 rintro _ rfl
 refine Tops_yes rfl rfl rfl (OpT_nilCheckP rfl rfl rfl rfl) ?_
 rintro _ rfl
 refine Tops_yes rfl rfl rfl (OpT_fieldC rfl rfl rfl rfl fldF89x1) ?_
 rintro _ rfl
 refine Tops_yes rfl rfl rfl (OpT_loadC rfl rfl rfl rfl tyF87 (i := 0) rfl rfl) ?_
 rintro _ rfl
 refine Tops_yes rfl rfl rfl (OpT_eqRows rfl rfl rfl (.inr rfl) rfl rfl Try.underlying87 (i := 1) rfl) ?_
 rintro _ rfl
 refine Tops_step rfl (OpT_pickT rfl rfl rfl rfl rfl) ?_
 refine Tops_step rfl (OpT_assign rfl rfl rfl rfl) ?_
 refine Tops_nil (tZ [2] [0, 1] [0] rfl rfl rfl rfl ?_)
 obtain rfl := Option.some.inj h
 exact Tk_retV rfl rfl (resA (vs := [vB true]) rfl ⟨rfl, trivial⟩) [0, 1] [] rfl rfl rfl ⟨rfl, rfl, rfl⟩

set_option maxRecDepth 100000 in
set_option maxHeartbeats 4000000 in
theorem w_gmem_Mem_bytes_1 {ip0 : Int} {arg1 : gmem_Mem} {arg2 : UInt64} {b_arg1 : Nat} {varg11 : Value} {varg12 : Value} {vsarg11 : List Value} {bb_arg1 : Nat} {b_arg2 : Nat} {r : Bool} (h : gmem_Mem_bytes_1 ip0 arg1 arg2 = some r) :
  Ctr Try.prog 48 #[vI ip0, .pointer (some ⟨bb_arg1, 0, none⟩), .pointer (some ⟨b_arg2, 0, none⟩)] [(cellsR bb_arg1 56 [.pointer (some ⟨b_arg1, 0, none⟩)]), (cellsR b_arg1 89 [varg11, varg12]), (rowsX u8S true varg12 vsarg11 arg1.b none), (cellsR b_arg2 30 [vU64 arg2])] [Fact.sl RegionS varg11 arg1.l]
   (fun rv own shr => rv = vB r ∧ own = [(cellsR bb_arg1 56 [.pointer (some ⟨b_arg1, 0, none⟩)]), (cellsR b_arg1 89 [varg11, varg12]), (rowsX u8S true varg12 vsarg11 arg1.b none), (cellsR b_arg2 30 [vU64 arg2])] ∧ shr = []) := by
 unfold gmem_Mem_bytes_1 at h
 refine Ctr.mk (args := [vI ip0, .pointer (some ⟨bb_arg1, 0, none⟩), .pointer (some ⟨b_arg2, 0, none⟩)]) Try.func48 rfl rfl (fun R0 w0 B => ?_)
 refine Tk_seq (Tk_region (Tops_step rfl (OpT_assign rfl rfl rfl rfl) ?_))
 refine Tops_nil (tZ [0, 1, 2] [0, 1, 2, 3] [0] rfl rfl rfl rfl ?_)
 refine Tk_seq (Tk_drawT (by kernel_rfl) ?_)
 refine TA_tb [0, 1, 3, 7, 0, 31, 63, 127, 255, 0, 512, 1536, 3584, 0, 15872, 32256, 65024, 131071, 0, 524287, 1048575] (by kernel_rfl) fun htb => ?_
 obtain ⟨r1, hx1, h⟩ := ob_e h
 obtain ⟨r2, hx2, h⟩ := ob_e h
 refine TA_seg (lo := 0) (hi := 19) htb rfl rfl (by kernel_rfl) (fun c L a w => ∃ (p1 : Value), ∃ (p2 : Value), ∃ (p3 : Value), ∃ (p4 : Value), Sat c ⟨[(0, some (vI ip0)), (1, some (.pointer (some ⟨bb_arg1, 0, none⟩))), (2, some (.pointer (some ⟨b_arg2, 0, none⟩))), (5, bif L 0 then some (.pointer (some ⟨b_arg1, 0, none⟩)) else none), (6, bif L 1 then some (.pointer (some ⟨b_arg1, 0, none⟩)) else none), (7, bif L 2 then some (.pointer (some ⟨b_arg1, 0, none⟩)) else none), (8, bif L 3 then some (varg11) else none), (9, bif L 4 then some (vI ip0) else none), (10, bif L 5 then some (p1) else none), (11, bif L 6 then some (p2) else none), (12, bif L 7 then some (vU64 r1.Len) else none), (13, bif L 8 then some (vU64 (r1.Len - (1 : UInt64))) else none), (14, bif L 9 then some (.pointer (some ⟨b_arg1, 0, none⟩)) else none), (15, bif L 10 then some (.pointer (some ⟨b_arg1, 0, none⟩)) else none), (16, bif L 11 then some (.pointer (some ⟨b_arg1, 0, none⟩)) else none), (17, bif L 12 then some (varg11) else none), (18, bif L 13 then some (vI ip0) else none), (19, bif L 14 then some (p3) else none), (20, bif L 15 then some (p4) else none), (21, bif L 16 then some (vU64 r2.At) else none), (22, bif L 17 then some (vU64 ((r1.Len - (1 : UInt64)) + r2.At)) else none), (23, bif L 18 then some (vU64 arg2) else none)], [(some (cellsR bb_arg1 56 [.pointer (some ⟨b_arg1, 0, none⟩)]) : Option Res), (some (cellsR b_arg1 89 [varg11, varg12]) : Option Res), (some (rowsX u8S true varg12 vsarg11 arg1.b none) : Option Res), (some (cellsR b_arg2 30 [vU64 arg2]) : Option Res)], [Fact.sl RegionS varg11 arg1.l, (bif L 5 then Fact.pt RegionS p1 r1 else Fact.tt), (bif L 6 then Fact.pt u64S p2 r1.Len else Fact.tt), (bif L 14 then Fact.pt RegionS p3 r2 else Fact.tt), (bif L 15 then Fact.pt u64S p4 r2.At else Fact.tt)]⟩ a w) [([], [1, 2, 3, 5, 6, 7, 8, 17]), ([0], [2, 3, 5, 6, 7, 8, 17]), ([0, 1], [3, 5, 6, 7, 8, 17]), ([0, 1, 2], [5, 6, 7, 8, 17]), ([], [5, 6, 7, 8, 17]), ([0, 1, 2, 3, 4], [6, 7, 8, 17]), ([0, 1, 2, 3, 4, 5], [7, 8, 17]), ([0, 1, 2, 3, 4, 5, 6], [8, 17]), ([0, 1, 2, 3, 4, 5, 6, 7], [17]), ([], [10, 11, 12, 14, 15, 16, 17]), ([9], [11, 12, 14, 15, 16, 17]), ([9, 10], [12, 14, 15, 16, 17]), ([9, 10, 11], [14, 15, 16, 17]), ([], [14, 15, 16, 17]), ([9, 10, 11, 12, 13], [15, 16, 17]), ([9, 10, 11, 12, 13, 14], [16, 17]), ([9, 10, 11, 12, 13, 14, 15], [17]), ([0, 1, 2, 3, 4, 5, 6, 7, 8, 9, 10, 11, 12, 13, 14, 15, 16], []), ([], [])] rfl (by kernel_rfl) ?_ (steps_cons ?_ (steps_cons ?_ (steps_cons ?_ (steps_cons ?_ (steps_cons ?_ (steps_cons ?_ (steps_cons ?_ (steps_cons ?_ (steps_cons ?_ (steps_cons ?_ (steps_cons ?_ (steps_cons ?_ (steps_cons ?_ (steps_cons ?_ (steps_cons ?_ (steps_cons ?_ (steps_cons ?_ (steps_cons ?_ (steps_cons ?_ (steps_nil)))))))))))))))))))) ?_
 ·intro a w hs
  exact ⟨undef, undef, undef, undef, hs.startF [5, 6, 7, 8, 9, 10, 11, 12, 13, 14, 15, 16, 17, 18, 19, 20, 21, 22, 23] [0, 1, 2, 3] [0, 1, 2, 3, 4] rfl rfl rfl rfl⟩
 ·intro L a w hv K Q hK
  obtain ⟨p1, p2, p3, p4, hs⟩ := hv
  refine wpOp_go rfl rfl hs (OpT_loadC rfl rfl rfl rfl tyF56 (i := 0) rfl rfl) ?_
  rintro _ rfl a' w' hs'
  exact hK a' w' ⟨p1, p2, p3, p4, hs'.putF (i := 3) rfl [0, 1, 2, 3] [0, 1, 2, 3, 4] rfl rfl rfl rfl⟩
 ·intro L a w hv K Q hK
  obtain ⟨p1, p2, p3, p4, hs⟩ := hv
  refine wpOp_go rfl rfl hs (OpT_nilCheckP rfl rfl rfl rfl) ?_
  rintro _ rfl a' w' hs'
  exact hK a' w' ⟨p1, p2, p3, p4, hs'.putF (i := 4) rfl [0, 1, 2, 3] [0, 1, 2, 3, 4] rfl rfl rfl rfl⟩
 ·intro L a w hv K Q hK
  obtain ⟨p1, p2, p3, p4, hs⟩ := hv
  refine wpOp_go rfl rfl hs (OpT_fieldC rfl rfl rfl rfl fldF89x0) ?_
  rintro _ rfl a' w' hs'
  exact hK a' w' ⟨p1, p2, p3, p4, hs'.putF (i := 5) rfl [0, 1, 2, 3] [0, 1, 2, 3, 4] rfl rfl rfl rfl⟩
 ·intro L a w hv K Q hK
  obtain ⟨p1, p2, p3, p4, hs⟩ := hv
  refine wpOp_go rfl rfl hs (OpT_loadC rfl rfl rfl rfl tyF61 (i := 1) rfl rfl) ?_
  rintro _ rfl a' w' hs'
  exact hK a' w' ⟨p1, p2, p3, p4, hs'.putF (i := 6) rfl [0, 1, 2, 3] [0, 1, 2, 3, 4] rfl rfl rfl rfl⟩
 ·intro L a w hv K Q hK
  obtain ⟨p1, p2, p3, p4, hs⟩ := hv
  refine wpOp_go rfl rfl hs (OpT_move rfl rfl rfl rfl) ?_
  rintro _ rfl a' w' hs'
  exact hK a' w' ⟨p1, p2, p3, p4, hs'.putF (i := 7) rfl [0, 1, 2, 3] [0, 1, 2, 3, 4] rfl rfl rfl rfl⟩
 ·intro L a w hv K Q hK
  obtain ⟨p1, p2, p3, p4, hs⟩ := hv
  refine wpOp_go rfl rfl hs (OpT_idxS rfl rfl rfl rfl rfl slF61 (i := 0) rfl hx1) ?_
  rintro _ ⟨p1', rfl⟩ a' w' hs'
  exact hK a' w' ⟨p1', p2, p3, p4, hs'.putF (i := 8) rfl [0, 1, 2, 3] [0, 5, 2, 3, 4] rfl rfl rfl rfl⟩
 ·intro L a w hv K Q hK
  obtain ⟨p1, p2, p3, p4, hs⟩ := hv
  refine wpOp_go rfl rfl hs (OpT_fieldP (S' := u64S) (y := r1.Len) rfl rfl rfl rfl fldF60x1 (i := 1) rfl (by intro h cs hr; subst hr; rfl)) ?_
  rintro _ ⟨p2', rfl⟩ a' w' hs'
  exact hK a' w' ⟨p1, p2', p3, p4, hs'.putF (i := 9) rfl [0, 1, 2, 3] [0, 1, 5, 3, 4] rfl rfl rfl rfl⟩
 ·intro L a w hv K Q hK
  obtain ⟨p1, p2, p3, p4, hs⟩ := hv
  refine wpOp_go rfl rfl hs (OpT_loadP rfl rfl rfl rfl tyF30 (i := 2) rfl rfl) ?_
  rintro _ rfl a' w' hs'
  exact hK a' w' ⟨p1, p2, p3, p4, hs'.putF (i := 10) rfl [0, 1, 2, 3] [0, 1, 2, 3, 4] rfl rfl rfl rfl⟩
 ·intro L a w hv K Q hK
  obtain ⟨p1, p2, p3, p4, hs⟩ := hv
  refine wpOp_go rfl rfl hs (OpT_bin rfl rfl rfl rfl rfl (bin_sub_u64 (a := r1.Len) (b := (1 : UInt64)))) ?_
  rintro _ rfl a' w' hs'
  exact hK a' w' ⟨p1, p2, p3, p4, hs'.putF (i := 11) rfl [0, 1, 2, 3] [0, 1, 2, 3, 4] rfl rfl rfl rfl⟩
 ·intro L a w hv K Q hK
  obtain ⟨p1, p2, p3, p4, hs⟩ := hv
  refine wpOp_go rfl rfl hs (OpT_loadC rfl rfl rfl rfl tyF56 (i := 0) rfl rfl) ?_
  rintro _ rfl a' w' hs'
  exact hK a' w' ⟨p1, p2, p3, p4, hs'.putF (i := 12) rfl [0, 1, 2, 3] [0, 1, 2, 3, 4] rfl rfl rfl rfl⟩
 ·intro L a w hv K Q hK
  obtain ⟨p1, p2, p3, p4, hs⟩ := hv
  refine wpOp_go rfl rfl hs (OpT_nilCheckP rfl rfl rfl rfl) ?_
  rintro _ rfl a' w' hs'
  exact hK a' w' ⟨p1, p2, p3, p4, hs'.putF (i := 13) rfl [0, 1, 2, 3] [0, 1, 2, 3, 4] rfl rfl rfl rfl⟩
 ·intro L a w hv K Q hK
  obtain ⟨p1, p2, p3, p4, hs⟩ := hv
  refine wpOp_go rfl rfl hs (OpT_fieldC rfl rfl rfl rfl fldF89x0) ?_
  rintro _ rfl a' w' hs'
  exact hK a' w' ⟨p1, p2, p3, p4, hs'.putF (i := 14) rfl [0, 1, 2, 3] [0, 1, 2, 3, 4] rfl rfl rfl rfl⟩
 ·intro L a w hv K Q hK
  obtain ⟨p1, p2, p3, p4, hs⟩ := hv
  refine wpOp_go rfl rfl hs (OpT_loadC rfl rfl rfl rfl tyF61 (i := 1) rfl rfl) ?_
  rintro _ rfl a' w' hs'
  exact hK a' w' ⟨p1, p2, p3, p4, hs'.putF (i := 15) rfl [0, 1, 2, 3] [0, 1, 2, 3, 4] rfl rfl rfl rfl⟩
 ·intro L a w hv K Q hK
  obtain ⟨p1, p2, p3, p4, hs⟩ := hv
  refine wpOp_go rfl rfl hs (OpT_move rfl rfl rfl rfl) ?_
  rintro _ rfl a' w' hs'
  exact hK a' w' ⟨p1, p2, p3, p4, hs'.putF (i := 16) rfl [0, 1, 2, 3] [0, 1, 2, 3, 4] rfl rfl rfl rfl⟩
 ·intro L a w hv K Q hK
  obtain ⟨p1, p2, p3, p4, hs⟩ := hv
  refine wpOp_go rfl rfl hs (OpT_idxS rfl rfl rfl rfl rfl slF61 (i := 0) rfl hx2) ?_
  rintro _ ⟨p3', rfl⟩ a' w' hs'
  exact hK a' w' ⟨p1, p2, p3', p4, hs'.putF (i := 17) rfl [0, 1, 2, 3] [0, 1, 2, 5, 4] rfl rfl rfl rfl⟩
 ·intro L a w hv K Q hK
  obtain ⟨p1, p2, p3, p4, hs⟩ := hv
  refine wpOp_go rfl rfl hs (OpT_fieldP (S' := u64S) (y := r2.At) rfl rfl rfl rfl fldF60x0 (i := 3) rfl (by intro h cs hr; subst hr; rfl)) ?_
  rintro _ ⟨p4', rfl⟩ a' w' hs'
  exact hK a' w' ⟨p1, p2, p3, p4', hs'.putF (i := 18) rfl [0, 1, 2, 3] [0, 1, 2, 3, 5] rfl rfl rfl rfl⟩
 ·intro L a w hv K Q hK
  obtain ⟨p1, p2, p3, p4, hs⟩ := hv
  refine wpOp_go rfl rfl hs (OpT_loadP rfl rfl rfl rfl tyF30 (i := 4) rfl rfl) ?_
  rintro _ rfl a' w' hs'
  exact hK a' w' ⟨p1, p2, p3, p4, hs'.putF (i := 19) rfl [0, 1, 2, 3] [0, 1, 2, 3, 4] rfl rfl rfl rfl⟩
 ·intro L a w hv K Q hK
  obtain ⟨p1, p2, p3, p4, hs⟩ := hv
  refine wpOp_go rfl rfl hs (OpT_bin rfl rfl rfl rfl rfl (bin_add_u64 (a := r1.Len - (1 : UInt64)) (b := r2.At))) ?_
  rintro _ rfl a' w' hs'
  exact hK a' w' ⟨p1, p2, p3, p4, hs'.putF (i := 20) rfl [0, 1, 2, 3] [0, 1, 2, 3, 4] rfl rfl rfl rfl⟩
 ·intro L a w hv K Q hK
  obtain ⟨p1, p2, p3, p4, hs⟩ := hv
  refine wpOp_go rfl rfl hs (OpT_loadC rfl rfl rfl rfl tyF30 (i := 3) rfl rfl) ?_
  rintro _ rfl a' w' hs'
  exact hK a' w' ⟨p1, p2, p3, p4, hs'.putF (i := 21) rfl [0, 1, 2, 3] [0, 1, 2, 3, 4] rfl rfl rfl rfl⟩
 ·intro L a w hL hv
  rw [allTrue hL] at hv
  obtain ⟨p1, p2, p3, p4, hs⟩ := hv
  refine gZ hs [22, 23] [0, 1, 2, 3] [0] rfl rfl rfl rfl ?_
  clear hs hL
  refine TA_step htb (by kernel_rfl) rfl rfl (OpT_bin rfl rfl rfl rfl rfl (bin_geq_u64 (a := (r1.Len - (1 : UInt64)) + r2.At) (b := arg2))) ?_
  refine TA_step htb (by kernel_rfl) rfl rfl (OpT_assign rfl rfl rfl rfl) ?_
  refine TA_end rfl ?_
  refine tZ [4] [0, 1, 2, 3] [0] rfl rfl rfl rfl ?_
  obtain rfl := Option.some.inj h
  exact Tk_retV rfl rfl (resA (vs := [vB (decide (((r1.Len - (1 : UInt64)) + r2.At) ≥ arg2))]) rfl ⟨rfl, trivial⟩) [0, 1, 2, 3] [] rfl rfl rfl ⟨rfl, rfl, rfl⟩

set_option maxRecDepth 100000 in
set_option maxHeartbeats 4000000 in
theorem w_sort_SearchFgmem_Mem_bytes_1 {np0 : Int} {fc0 : gmem_Mem} {fc1 : UInt64} {b_fc0 : Nat} {vfc01 : Value} {vfc02 : Value} {vsfc01 : List Value} {bb_fc0 : Nat} {b_fc1 : Nat} {r : Int} (h : sort_SearchFgmem_Mem_bytes_1 np0 fc0 fc1 = some r) :
  Ctr Try.prog 47 #[vI np0, .func (.func 48) #[] #[.pointer (some ⟨bb_fc0, 0, none⟩), .pointer (some ⟨b_fc1, 0, none⟩)]] [(cellsR bb_fc0 56 [.pointer (some ⟨b_fc0, 0, none⟩)]), (cellsR b_fc0 89 [vfc01, vfc02]), (rowsX u8S true vfc02 vsfc01 fc0.b none), (cellsR b_fc1 30 [vU64 fc1])] [Fact.sl RegionS vfc01 fc0.l]
   (fun rv own shr => rv = vI r ∧ own = [(cellsR bb_fc0 56 [.pointer (some ⟨b_fc0, 0, none⟩)]), (cellsR b_fc0 89 [vfc01, vfc02]), (rowsX u8S true vfc02 vsfc01 fc0.b none), (cellsR b_fc1 30 [vU64 fc1])] ∧ shr = []) := by
 unfold sort_SearchFgmem_Mem_bytes_1 at h
 refine Ctr.mk (args := [vI np0, .func (.func 48) #[] #[.pointer (some ⟨bb_fc0, 0, none⟩), .pointer (some ⟨b_fc1, 0, none⟩)]]) Try.func47 rfl rfl (fun R0 w0 B => ?_)
 refine Tk_seq (Tk_region (Tops_step rfl (OpT_assign rfl rfl rfl rfl) ?_))
 refine Tops_nil (tZ [0, 1] [0, 1, 2, 3] [0] rfl rfl rfl rfl ?_)
 refine Tk_seq (Tk_region (Tops_step rfl (OpT_move rfl rfl rfl rfl) ?_))
 refine Tops_step rfl (OpT_assign rfl rfl rfl rfl) ?_
 refine Tops_step rfl (OpT_assign rfl rfl rfl rfl) ?_
 refine Tops_nil (tZ [1, 5, 6] [0, 1, 2, 3] [0] rfl rfl rfl rfl ?_)
 refine Tk_seq (Tk_block (Tk_loopS (σ := Int × Int) [1, 5, 6] [0, 1, 2, 3] [0] (fun s => ⟨[(1, some (.func (.func 48) #[] #[.pointer (some ⟨bb_fc0, 0, none⟩), .pointer (some ⟨b_fc1, 0, none⟩)])), (5, some (vI s.1)), (6, some (vI s.2))], [some (cellsR bb_fc0 56 [.pointer (some ⟨b_fc0, 0, none⟩)]), some (cellsR b_fc0 89 [vfc01, vfc02]), some (rowsX u8S true vfc02 vsfc01 fc0.b none), some (cellsR b_fc1 30 [vU64 fc1])], [Fact.sl RegionS vfc01 fc0.l]⟩) (fun nf1 s => sort_SearchFgmem_Mem_bytes_1L1 fc0 fc1 nf1 s.1 s.2 = some r) fuel ((0 : Int), np0) h rfl rfl rfl rfl rfl (fun s h => by cases h) ?_))
 rintro nf1 ⟨i1, j1⟩ h
 replace h : sort_SearchFgmem_Mem_bytes_1L1B fc0 fc1 (sort_SearchFgmem_Mem_bytes_1L1 fc0 fc1 nf1) i1 j1 = some r := h
 unfold sort_SearchFgmem_Mem_bytes_1L1B at h
 refine Tk_seq (Tk_seq (Tk_region (Tops_step rfl (OpT_move rfl rfl rfl rfl) ?_)))
 refine Tops_step rfl (OpT_move rfl rfl rfl rfl) ?_
 refine Tops_step rfl (OpT_bin rfl rfl rfl rfl rfl (bin_lss_i (a := i1) (b := j1))) ?_
 refine Tops_nil (tZ [1, 5, 6, 11] [0, 1, 2, 3] [0] rfl rfl rfl rfl ?_)
 rcases Bool.eq_false_or_eq_true (decide (i1 < j1)) with hg1 | hg1
 ·replace h := br_t hg1 h
  refine Tk_condT (congrArg (fun b => some (Value.bool b)) hg1) ?_
  refine Tk_skip (Tk_block (Tk_seq (Tk_region (Tops_step rfl (OpT_move rfl rfl rfl rfl) ?_))))
  refine Tops_step rfl (OpT_move rfl rfl rfl rfl) ?_
  refine Tops_step rfl (OpT_bin rfl rfl rfl rfl rfl (bin_add_i (a := i1) (b := j1))) ?_
  refine Tops_step rfl (OpT_cnv rfl rfl rfl rfl (cnv_i_u64 (n := wi (i1 + j1)) Try.underlying3 Try.underlying96)) ?_
  refine Tops_step rfl (OpT_bin rfl rfl rfl rfl rfl (bin_shr_u64_u64 (a := u64 (wi (i1 + j1))) (n := (1 : UInt64)))) ?_
  refine Tops_step rfl (OpT_cnv rfl rfl rfl rfl (cnv_u64_i (n := shr64 (u64 (wi (i1 + j1))) ((1 : UInt64).toNat)) Try.underlying96 Try.underlying3)) ?_
  refine Tops_step rfl (OpT_assign rfl rfl rfl rfl) ?_
  refine Tops_nil (tZ [1, 5, 6, 7] [0, 1, 2, 3] [0] rfl rfl rfl rfl ?_)
  refine Tk_seq (Tk_region (Tops_step rfl (OpT_move rfl rfl rfl rfl) ?_))
  refine Tops_step rfl (OpT_move rfl rfl rfl rfl) ?_
  obtain ⟨bytes1, hx1, h⟩ := ob_e h
  refine Tops_exP rfl (OpT_callP [4, 5, 6, 7] (w_gmem_Mem_bytes_1 hx1) [0, 1, 2, 3] [0] rfl rfl rfl rfl rfl callee48 rfl rfl rfl rfl rfl) ?_
  rintro _ ⟨_, _, _, ⟨rfl, rfl, rfl⟩, rfl⟩
  refine Tops_step rfl (OpT_not rfl rfl rfl rfl) ?_
  refine Tops_nil (tZ [1, 5, 6, 7, 21] [0, 1, 2, 3] [0] rfl rfl rfl rfl ?_)
  rcases Bool.eq_false_or_eq_true ((!bytes1)) with hg2 | hg2
  ·replace h := br_t hg2 h
   refine Tk_condT (congrArg (fun b => some (Value.bool b)) hg2) ?_
   refine Tk_region (Tops_step rfl (OpT_move rfl rfl rfl rfl) ?_)
   refine Tops_step rfl (OpT_bin rfl rfl rfl rfl rfl (bin_add_i (a := i64 (shr64 (u64 (wi (i1 + j1))) ((1 : UInt64).toNat))) (b := (1 : Int)))) ?_
   refine Tops_step rfl (OpT_assign rfl rfl rfl rfl) ?_
   refine Tops_nil (tZ [1, 5, 6] [0, 1, 2, 3] [0] rfl rfl rfl rfl ?_)
   refine Tk_blk ?_
   exact Tk_backS (wi ((i64 (shr64 (u64 (wi (i1 + j1))) ((1 : UInt64).toNat))) + (1 : Int)), j1) h [1, 5, 6] [0, 1, 2, 3] [0] rfl rfl rfl rfl rfl
  ·replace h := br_f hg2 h
   refine Tk_condF (congrArg (fun b => some (Value.bool b)) hg2) ?_
   refine Tk_region (Tops_step rfl (OpT_move rfl rfl rfl rfl) ?_)
   refine Tops_step rfl (OpT_assign rfl rfl rfl rfl) ?_
   refine Tops_nil (tZ [1, 5, 6] [0, 1, 2, 3] [0] rfl rfl rfl rfl ?_)
   refine Tk_blk ?_
   exact Tk_backS (i1, i64 (shr64 (u64 (wi (i1 + j1))) ((1 : UInt64).toNat))) h [1, 5, 6] [0, 1, 2, 3] [0] rfl rfl rfl rfl rfl
 ·replace h := br_f hg1 h
  refine Tk_condF (congrArg (fun b => some (Value.bool b)) hg1) ?_
  refine Tk_exit _ rfl ?_
  refine Tk_seq (Tk_region (Tops_step rfl (OpT_move rfl rfl rfl rfl) ?_))
  refine Tops_step rfl (OpT_assign rfl rfl rfl rfl) ?_
  refine Tops_nil (tZ [4] [0, 1, 2, 3] [0] rfl rfl rfl rfl ?_)
  obtain rfl := Option.some.inj h
  exact Tk_retV rfl rfl (resA (vs := [vI i1]) rfl ⟨rfl, trivial⟩) [0, 1, 2, 3] [] rfl rfl rfl ⟨rfl, rfl, rfl⟩

set_option maxRecDepth 100000 in
set_option maxHeartbeats 4000000 in
theorem w_gmem_Mem_bytes {m : gmem_Mem} {atp1 : UInt64} {np2 : UInt64} {b_m : Nat} {vm1 : Value} {vm2 : Value} {vsm1 : List Value} {r : (Option (Int × Int × Int))} (h : gmem_Mem_bytes m atp1 np2 = some r) :
  Ctr Try.prog 33 #[.pointer (some ⟨b_m, 0, none⟩), vU64 atp1, vU64 np2] [(cellsR b_m 89 [vm1, vm2]), (rowsX u8S true vm2 vsm1 m.b none)] [Fact.sl RegionS vm1 m.l]
   (fun rv own shr => rv = winV 1 vsm1 r ∧ own = [(cellsR b_m 89 [vm1, vm2]), (rowsX u8S true vm2 vsm1 m.b none)] ∧ shr = []) := by
 unfold gmem_Mem_bytes at h
 refine Ctr.mk (args := [.pointer (some ⟨b_m, 0, none⟩), vU64 atp1, vU64 np2]) Try.func33 rfl rfl (fun R0 w0 B => ?_)
 refine Tk_seq (Tk_region (Tops_ex rfl (OpT_box rfl rfl rfl rfl) fun b1 => ?_))
 refine Tops_ex rfl (OpT_box rfl rfl rfl rfl) fun b2 => ?_
 refine Tops_step rfl (OpT_assign rfl rfl rfl rfl) ?_
 refine Tops_nil (tZ [2, 3, 4] [0, 1, 2, 3] [0] rfl rfl rfl rfl ?_)
 refine Tk_seq (Tk_seq (Tk_region (Tops_step rfl (OpT_move rfl rfl rfl rfl) ?_)))
 refine Tops_step rfl (OpT_bin rfl rfl rfl rfl rfl (bin_lss_u64 (a := np2) (b := (1 : UInt64)))) ?_
 refine Tops_nil (tZ [2, 3, 4, 10] [0, 1, 2, 3] [0] rfl rfl rfl rfl ?_)
 rcases Bool.eq_false_or_eq_true (decide (np2 < (1 : UInt64))) with hg1 | hg1
 ·replace h := br_t hg1 h
  refine Tk_condT (congrArg (fun b => some (Value.bool b)) hg1) ?_
  refine Tk_seq (Tk_region (Tops_step rfl (OpT_assign rfl rfl rfl rfl) ?_))
  refine Tops_nil (tZ [6] [0, 1] [0] rfl rfl rfl rfl ?_)
  obtain rfl := Option.some.inj h
  exact Tk_retV rfl rfl (resA (vs := [.slice none 0 0]) rfl ⟨rfl, trivial⟩) [0, 1] [] rfl rfl rfl ⟨rfl, rfl, rfl⟩
 ·replace h := br_f hg1 h
  refine Tk_condF (congrArg (fun b => some (Value.bool b)) hg1) ?_
  refine Tk_skip (Tk_seq (Tk_region (Tops_step rfl (OpT_loadC rfl rfl rfl rfl tyF56 (i := 2) rfl rfl) ?_)))
  refine Tops_step rfl (OpT_nilCheckP rfl rfl rfl rfl) ?_
  refine Tops_step rfl (OpT_fieldC rfl rfl rfl rfl fldF89x0) ?_
  refine Tops_step rfl (OpT_loadC rfl rfl rfl rfl tyF61 (i := 0) rfl rfl) ?_
  refine Tops_step rfl (OpT_lenS rfl rfl rfl rfl Try.underlying61 (i := 0) rfl) ?_
  refine Tops_step rfl (OpT_makeFunc (vs := [.pointer (some ⟨b1, 0, none⟩), .pointer (some ⟨b2, 0, none⟩)]) rfl rfl rfl rfl) ?_
  obtain ⟨search1, hx1, h⟩ := ob_e h
  refine Tops_exP rfl (OpT_callP [5, 6, 4, 7] (w_sort_SearchFgmem_Mem_bytes_1 hx1) [2, 0, 1, 3] [0] rfl rfl rfl rfl rfl callee47 rfl rfl rfl rfl rfl) ?_
  rintro _ ⟨_, _, _, ⟨rfl, rfl, rfl⟩, rfl⟩
  refine Tops_step rfl (OpT_assign rfl rfl rfl rfl) ?_
  refine Tops_nil (tZ [2, 3, 4, 7] [0, 1, 2, 3] [0] rfl rfl rfl rfl ?_)
  refine Tk_seq (Tk_seq (Tk_drawT (by kernel_rfl) ?_))
  refine TA_tb [0, 0, 2, 6, 14, 30, 63, 127, 255, 255, 767, 1791, 3839, 255, 16127, 32511, 65279, 131071, 262143] (by kernel_rfl) fun htb => ?_
  refine TA_seg (lo := 0) (hi := 6) htb rfl rfl (by kernel_rfl) (fun c L a w => Sat c ⟨[(2, some (vU64 np2)), (3, some (.pointer (some ⟨b1, 0, none⟩))), (4, some (.pointer (some ⟨b2, 0, none⟩))), (7, some (vI search1)), (18, bif L 0 then some (vI search1) else none), (19, bif L 1 then some (.pointer (some ⟨b_m, 0, none⟩)) else none), (20, bif L 2 then some (.pointer (some ⟨b_m, 0, none⟩)) else none), (21, bif L 3 then some (.pointer (some ⟨b_m, 0, none⟩)) else none), (22, bif L 4 then some (vm1) else none), (23, bif L 5 then some (vI (len m.l)) else none)], [(some (cellsR b_m 89 [vm1, vm2]) : Option Res), (some (rowsX u8S true vm2 vsm1 m.b none) : Option Res), (some (cellsR b1 56 [.pointer (some ⟨b_m, 0, none⟩)]) : Option Res), (some (cellsR b2 30 [vU64 atp1]) : Option Res)], [Fact.sl RegionS vm1 m.l]⟩ a w) [([], []), ([], [2, 3, 4, 5]), ([1], [3, 4, 5]), ([1, 2], [4, 5]), ([1, 2, 3], [5]), ([1, 2, 3, 4], [])] rfl (by kernel_rfl) ?_ (steps_cons ?_ (steps_cons ?_ (steps_cons ?_ (steps_cons ?_ (steps_cons ?_ (steps_cons ?_ (steps_nil))))))) ?_
  ·intro a w hs
   exact hs.startF [18, 19, 20, 21, 22, 23] [0, 1, 2, 3] [0] rfl rfl rfl rfl
  ·intro L a w hv K Q hK
   have hs := hv
   refine wpOp_go rfl rfl hs (OpT_move rfl rfl rfl rfl) ?_
   rintro _ rfl a' w' hs'
   exact hK a' w' (hs'.putF (i := 4) rfl [0, 1, 2, 3] [0] rfl rfl rfl rfl)
  ·intro L a w hv K Q hK
   have hs := hv
   refine wpOp_go rfl rfl hs (OpT_loadC rfl rfl rfl rfl tyF56 (i := 2) rfl rfl) ?_
   rintro _ rfl a' w' hs'
   exact hK a' w' (hs'.putF (i := 5) rfl [0, 1, 2, 3] [0] rfl rfl rfl rfl)
  ·intro L a w hv K Q hK
   have hs := hv
   refine wpOp_go rfl rfl hs (OpT_nilCheckP rfl rfl rfl rfl) ?_
   rintro _ rfl a' w' hs'
   exact hK a' w' (hs'.putF (i := 6) rfl [0, 1, 2, 3] [0] rfl rfl rfl rfl)
  ·intro L a w hv K Q hK
   have hs := hv
   refine wpOp_go rfl rfl hs (OpT_fieldC rfl rfl rfl rfl fldF89x0) ?_
   rintro _ rfl a' w' hs'
   exact hK a' w' (hs'.putF (i := 7) rfl [0, 1, 2, 3] [0] rfl rfl rfl rfl)
  ·intro L a w hv K Q hK
   have hs := hv
   refine wpOp_go rfl rfl hs (OpT_loadC rfl rfl rfl rfl tyF61 (i := 0) rfl rfl) ?_
   rintro _ rfl a' w' hs'
   exact hK a' w' (hs'.putF (i := 8) rfl [0, 1, 2, 3] [0] rfl rfl rfl rfl)
  ·intro L a w hv K Q hK
   have hs := hv
   refine wpOp_go rfl rfl hs (OpT_lenS rfl rfl rfl rfl Try.underlying61 (i := 0) rfl) ?_
   rintro _ rfl a' w' hs'
   exact hK a' w' (hs'.putF (i := 9) rfl [0, 1, 2, 3] [0] rfl rfl rfl rfl)
  ·intro L a w hL hv
   rw [allTrue hL] at hv
   have hs := hv
   refine gZ hs [2, 3, 4, 7, 18, 23] [0, 1, 2, 3] [0] rfl rfl rfl rfl ?_
   clear hs hL
   refine TA_step htb (by kernel_rfl) rfl rfl (OpT_bin rfl rfl rfl rfl rfl (bin_eql_i (a := search1) (b := len m.l))) ?_
   refine TA_step htb (by kernel_rfl) rfl rfl (OpT_move rfl rfl rfl rfl) ?_
   refine aZ [2, 3, 4, 7, 25] [0, 1, 2, 3] [0] rfl rfl rfl rfl ?_
   rcases Bool.eq_false_or_eq_true (search1 == (len m.l)) with hg2 | hg2
   ·replace h := br_t hg2 h
    refine TA_seg (lo := 8) (hi := 17) htb rfl rfl (by kernel_rfl) (fun c L a w => Sat c ⟨[(2, some (vU64 np2)), (3, some (.pointer (some ⟨b1, 0, none⟩))), (4, some (.pointer (some ⟨b2, 0, none⟩))), (7, some (vI search1)), (25, some (vB (search1 == (len m.l)))), (26, bif L 8 then some (undef) else none), (27, bif L 9 then some (undef) else none), (28, bif L 10 then some (undef) else none), (29, bif L 11 then some (undef) else none), (30, bif L 12 then some (undef) else none), (31, bif L 13 then some (undef) else none), (32, bif L 14 then some (undef) else none), (33, bif L 15 then some (undef) else none), (34, bif L 16 then some (undef) else none)], [(some (cellsR b_m 89 [vm1, vm2]) : Option Res), (some (rowsX u8S true vm2 vsm1 m.b none) : Option Res), (some (cellsR b1 56 [.pointer (some ⟨b_m, 0, none⟩)]) : Option Res), (some (cellsR b2 30 [vU64 atp1]) : Option Res)], [Fact.sl RegionS vm1 m.l]⟩ a w) [([], []), ([], [10, 11, 12, 14, 15, 16]), ([9], [11, 12, 14, 15, 16]), ([9, 10], [12, 14, 15, 16]), ([9, 10, 11], [14, 15, 16]), ([], [14, 15, 16]), ([9, 10, 11, 12, 13], [15, 16]), ([9, 10, 11, 12, 13, 14], [16]), ([9, 10, 11, 12, 13, 14, 15], [])] rfl (by kernel_rfl) ?_ (steps_cons ?_ (steps_cons ?_ (steps_cons ?_ (steps_cons ?_ (steps_cons ?_ (steps_cons ?_ (steps_cons ?_ (steps_cons ?_ (steps_cons ?_ (steps_nil)))))))))) ?_
    ·intro a w hs
     exact hs.startF [26, 27, 28, 29, 30, 31, 32, 33, 34] [0, 1, 2, 3] [0] rfl rfl rfl rfl
    ·intro L a w hv K Q hK
     have hs := hv
     refine wpOp_no rfl rfl rfl hs (congrArg (fun b => some (Value.bool b)) hg2) rfl rfl ?_
     intro a' w' hs'
     exact hK a' w' (hs'.putF (i := 5) rfl [0, 1, 2, 3] [0] rfl rfl rfl rfl)
    ·intro L a w hv K Q hK
     have hs := hv
     refine wpOp_no rfl rfl rfl hs (congrArg (fun b => some (Value.bool b)) hg2) rfl rfl ?_
     intro a' w' hs'
     exact hK a' w' (hs'.putF (i := 6) rfl [0, 1, 2, 3] [0] rfl rfl rfl rfl)
    ·intro L a w hv K Q hK
     have hs := hv
     refine wpOp_no rfl rfl rfl hs (congrArg (fun b => some (Value.bool b)) hg2) rfl rfl ?_
     intro a' w' hs'
     exact hK a' w' (hs'.putF (i := 7) rfl [0, 1, 2, 3] [0] rfl rfl rfl rfl)
    ·intro L a w hv K Q hK
     have hs := hv
     refine wpOp_no rfl rfl rfl hs (congrArg (fun b => some (Value.bool b)) hg2) rfl rfl ?_
     intro a' w' hs'
     exact hK a' w' (hs'.putF (i := 8) rfl [0, 1, 2, 3] [0] rfl rfl rfl rfl)
    ·intro L a w hv K Q hK
     have hs := hv
     refine wpOp_no rfl rfl rfl hs (congrArg (fun b => some (Value.bool b)) hg2) rfl rfl ?_
     intro a' w' hs'
     exact hK a' w' (hs'.putF (i := 9) rfl [0, 1, 2, 3] [0] rfl rfl rfl rfl)
    ·intro L a w hv K Q hK
     have hs := hv
     refine wpOp_no rfl rfl rfl hs (congrArg (fun b => some (Value.bool b)) hg2) rfl rfl ?_
     intro a' w' hs'
     exact hK a' w' (hs'.putF (i := 10) rfl [0, 1, 2, 3] [0] rfl rfl rfl rfl)
    ·intro L a w hv K Q hK
     have hs := hv
     refine wpOp_no rfl rfl rfl hs (congrArg (fun b => some (Value.bool b)) hg2) rfl rfl ?_
     intro a' w' hs'
     exact hK a' w' (hs'.putF (i := 11) rfl [0, 1, 2, 3] [0] rfl rfl rfl rfl)
    ·intro L a w hv K Q hK
     have hs := hv
     refine wpOp_no rfl rfl rfl hs (congrArg (fun b => some (Value.bool b)) hg2) rfl rfl ?_
     intro a' w' hs'
     exact hK a' w' (hs'.putF (i := 12) rfl [0, 1, 2, 3] [0] rfl rfl rfl rfl)
    ·intro L a w hv K Q hK
     have hs := hv
     refine wpOp_no rfl rfl rfl hs (congrArg (fun b => some (Value.bool b)) hg2) rfl rfl ?_
     intro a' w' hs'
     exact hK a' w' (hs'.putF (i := 13) rfl [0, 1, 2, 3] [0] rfl rfl rfl rfl)
    ·intro L a w hL hv
     rw [allTrue hL] at hv
     have hs := hv
     refine gZ hs [2, 3, 4, 7, 25, 26, 34] [0, 1, 2, 3] [0] rfl rfl rfl rfl ?_
     clear hs hL
     refine TA_no htb (by kernel_rfl) rfl rfl rfl (congrArg (fun b => some (Value.bool b)) hg2) rfl rfl ?_
     refine TA_step htb (by kernel_rfl) rfl rfl (OpT_pickT rfl rfl rfl (congrArg (fun b => some (Value.bool b)) hg2) rfl) ?_
     refine TA_end rfl ?_
     refine tZ [2, 3, 4, 7, 36] [0, 1, 2, 3] [0] rfl rfl rfl rfl ?_
     refine Tk_condT rfl ?_
     refine Tk_seq (Tk_region (Tops_step rfl (OpT_assign rfl rfl rfl rfl) ?_))
     refine Tops_nil (tZ [6] [0, 1] [0] rfl rfl rfl rfl ?_)
     obtain rfl := Option.some.inj h
     exact Tk_retV rfl rfl (resA (vs := [.slice none 0 0]) rfl ⟨rfl, trivial⟩) [0, 1] [] rfl rfl rfl ⟨rfl, rfl, rfl⟩
   ·replace h := br_f hg2 h
    obtain ⟨r1, hx2, h⟩ := ob_e h
    refine TA_seg (lo := 8) (hi := 17) htb rfl rfl (by kernel_rfl) (fun c L a w => ∃ (p1 : Value), ∃ (p2 : Value), Sat c ⟨[(2, some (vU64 np2)), (3, some (.pointer (some ⟨b1, 0, none⟩))), (4, some (.pointer (some ⟨b2, 0, none⟩))), (7, some (vI search1)), (25, some (vB (search1 == (len m.l)))), (26, bif L 8 then some (vU64 atp1) else none), (27, bif L 9 then some (.pointer (some ⟨b_m, 0, none⟩)) else none), (28, bif L 10 then some (.pointer (some ⟨b_m, 0, none⟩)) else none), (29, bif L 11 then some (.pointer (some ⟨b_m, 0, none⟩)) else none), (30, bif L 12 then some (vm1) else none), (31, bif L 13 then some (vI search1) else none), (32, bif L 14 then some (p1) else none), (33, bif L 15 then some (p2) else none), (34, bif L 16 then some (vU64 r1.At) else none)], [(some (cellsR b_m 89 [vm1, vm2]) : Option Res), (some (rowsX u8S true vm2 vsm1 m.b none) : Option Res), (some (cellsR b1 56 [.pointer (some ⟨b_m, 0, none⟩)]) : Option Res), (some (cellsR b2 30 [vU64 atp1]) : Option Res)], [Fact.sl RegionS vm1 m.l, (bif L 14 then Fact.pt RegionS p1 r1 else Fact.tt), (bif L 15 then Fact.pt u64S p2 r1.At else Fact.tt)]⟩ a w) [([], []), ([], [10, 11, 12, 14, 15, 16]), ([9], [11, 12, 14, 15, 16]), ([9, 10], [12, 14, 15, 16]), ([9, 10, 11], [14, 15, 16]), ([], [14, 15, 16]), ([9, 10, 11, 12, 13], [15, 16]), ([9, 10, 11, 12, 13, 14], [16]), ([9, 10, 11, 12, 13, 14, 15], [])] rfl (by kernel_rfl) ?_ (steps_cons ?_ (steps_cons ?_ (steps_cons ?_ (steps_cons ?_ (steps_cons ?_ (steps_cons ?_ (steps_cons ?_ (steps_cons ?_ (steps_cons ?_ (steps_nil)))))))))) ?_
    ·intro a w hs
     exact ⟨undef, undef, hs.startF [26, 27, 28, 29, 30, 31, 32, 33, 34] [0, 1, 2, 3] [0, 1, 2] rfl rfl rfl rfl⟩
    ·intro L a w hv K Q hK
     obtain ⟨p1, p2, hs⟩ := hv
     refine wpOp_yes rfl rfl rfl hs (congrArg (fun b => some (Value.bool b)) hg2) (OpT_loadC rfl rfl rfl rfl tyF30 (i := 3) rfl rfl) ?_
     rintro _ rfl a' w' hs'
     exact hK a' w' ⟨p1, p2, hs'.putF (i := 5) rfl [0, 1, 2, 3] [0, 1, 2] rfl rfl rfl rfl⟩
    ·intro L a w hv K Q hK
     obtain ⟨p1, p2, hs⟩ := hv
     refine wpOp_yes rfl rfl rfl hs (congrArg (fun b => some (Value.bool b)) hg2) (OpT_loadC rfl rfl rfl rfl tyF56 (i := 2) rfl rfl) ?_
     rintro _ rfl a' w' hs'
     exact hK a' w' ⟨p1, p2, hs'.putF (i := 6) rfl [0, 1, 2, 3] [0, 1, 2] rfl rfl rfl rfl⟩
    ·intro L a w hv K Q hK
     obtain ⟨p1, p2, hs⟩ := hv
     refine wpOp_yes rfl rfl rfl hs (congrArg (fun b => some (Value.bool b)) hg2) (OpT_nilCheckP rfl rfl rfl rfl) ?_
     rintro _ rfl a' w' hs'
     exact hK a' w' ⟨p1, p2, hs'.putF (i := 7) rfl [0, 1, 2, 3] [0, 1, 2] rfl rfl rfl rfl⟩
    ·intro L a w hv K Q hK
     obtain ⟨p1, p2, hs⟩ := hv
     refine wpOp_yes rfl rfl rfl hs (congrArg (fun b => some (Value.bool b)) hg2) (OpT_fieldC rfl rfl rfl rfl fldF89x0) ?_
     rintro _ rfl a' w' hs'
     exact hK a' w' ⟨p1, p2, hs'.putF (i := 8) rfl [0, 1, 2, 3] [0, 1, 2] rfl rfl rfl rfl⟩
    ·intro L a w hv K Q hK
     obtain ⟨p1, p2, hs⟩ := hv
     refine wpOp_yes rfl rfl rfl hs (congrArg (fun b => some (Value.bool b)) hg2) (OpT_loadC rfl rfl rfl rfl tyF61 (i := 0) rfl rfl) ?_
     rintro _ rfl a' w' hs'
     exact hK a' w' ⟨p1, p2, hs'.putF (i := 9) rfl [0, 1, 2, 3] [0, 1, 2] rfl rfl rfl rfl⟩
    ·intro L a w hv K Q hK
     obtain ⟨p1, p2, hs⟩ := hv
     refine wpOp_yes rfl rfl rfl hs (congrArg (fun b => some (Value.bool b)) hg2) (OpT_move rfl rfl rfl rfl) ?_
     rintro _ rfl a' w' hs'
     exact hK a' w' ⟨p1, p2, hs'.putF (i := 10) rfl [0, 1, 2, 3] [0, 1, 2] rfl rfl rfl rfl⟩
    ·intro L a w hv K Q hK
     obtain ⟨p1, p2, hs⟩ := hv
     refine wpOp_yes rfl rfl rfl hs (congrArg (fun b => some (Value.bool b)) hg2) (OpT_idxS rfl rfl rfl rfl rfl slF61 (i := 0) rfl hx2) ?_
     rintro _ ⟨p1', rfl⟩ a' w' hs'
     exact hK a' w' ⟨p1', p2, hs'.putF (i := 11) rfl [0, 1, 2, 3] [0, 3, 2] rfl rfl rfl rfl⟩
    ·intro L a w hv K Q hK
     obtain ⟨p1, p2, hs⟩ := hv
     refine wpOp_yes rfl rfl rfl hs (congrArg (fun b => some (Value.bool b)) hg2) (OpT_fieldP (S' := u64S) (y := r1.At) rfl rfl rfl rfl fldF60x0 (i := 1) rfl (by intro h cs hr; subst hr; rfl)) ?_
     rintro _ ⟨p2', rfl⟩ a' w' hs'
     exact hK a' w' ⟨p1, p2', hs'.putF (i := 12) rfl [0, 1, 2, 3] [0, 1, 3] rfl rfl rfl rfl⟩
    ·intro L a w hv K Q hK
     obtain ⟨p1, p2, hs⟩ := hv
     refine wpOp_yes rfl rfl rfl hs (congrArg (fun b => some (Value.bool b)) hg2) (OpT_loadP rfl rfl rfl rfl tyF30 (i := 2) rfl rfl) ?_
     rintro _ rfl a' w' hs'
     exact hK a' w' ⟨p1, p2, hs'.putF (i := 13) rfl [0, 1, 2, 3] [0, 1, 2] rfl rfl rfl rfl⟩
    ·intro L a w hL hv
     rw [allTrue hL] at hv
     obtain ⟨p1, p2, hs⟩ := hv
     refine gZ hs [2, 3, 4, 7, 25, 26, 34] [0, 1, 2, 3] [0] rfl rfl rfl rfl ?_
     clear hs hL
     refine TA_yes htb (by kernel_rfl) rfl rfl rfl (congrArg (fun b => some (Value.bool b)) hg2) (OpT_bin rfl rfl rfl rfl rfl (bin_lss_u64 (a := atp1) (b := r1.At))) ?_
     rintro _ rfl
     refine TA_step htb (by kernel_rfl) rfl rfl (OpT_pickF rfl rfl rfl (congrArg (fun b => some (Value.bool b)) hg2) rfl) ?_
     refine TA_end rfl ?_
     refine tZ [2, 3, 4, 7, 36] [0, 1, 2, 3] [0] rfl rfl rfl rfl ?_
     rcases Bool.eq_false_or_eq_true (decide (atp1 < r1.At)) with hg3 | hg3
     ·replace h := br_t hg3 h
      refine Tk_condT (congrArg (fun b => some (Value.bool b)) hg3) ?_
      refine Tk_seq (Tk_region (Tops_step rfl (OpT_assign rfl rfl rfl rfl) ?_))
      refine Tops_nil (tZ [6] [0, 1] [0] rfl rfl rfl rfl ?_)
      obtain rfl := Option.some.inj h
      exact Tk_retV rfl rfl (resA (vs := [.slice none 0 0]) rfl ⟨rfl, trivial⟩) [0, 1] [] rfl rfl rfl ⟨rfl, rfl, rfl⟩
     ·replace h := br_f hg3 h
      refine Tk_condF (congrArg (fun b => some (Value.bool b)) hg3) ?_
      refine Tk_skip (Tk_seq (Tk_drawT (by kernel_rfl) ?_))
      refine TA_tb [0, 0, 2, 6, 14, 0, 62, 126, 254, 511, 1023] (by kernel_rfl) fun htb => ?_
      refine aZ [2, 3, 4, 7] [0, 1, 2, 3] [0] rfl rfl rfl rfl ?_
      obtain ⟨r2, hx3, h⟩ := ob_e h
      refine TA_seg (lo := 0) (hi := 9) htb rfl rfl (by kernel_rfl) (fun c L a w => ∃ (p3 : Value), ∃ (p4 : Value), Sat c ⟨[(2, some (vU64 np2)), (3, some (.pointer (some ⟨b1, 0, none⟩))), (4, some (.pointer (some ⟨b2, 0, none⟩))), (7, some (vI search1)), (37, bif L 0 then some (vU64 atp1) else none), (38, bif L 1 then some (.pointer (some ⟨b_m, 0, none⟩)) else none), (39, bif L 2 then some (.pointer (some ⟨b_m, 0, none⟩)) else none), (40, bif L 3 then some (.pointer (some ⟨b_m, 0, none⟩)) else none), (41, bif L 4 then some (vm1) else none), (42, bif L 5 then some (vI search1) else none), (43, bif L 6 then some (p3) else none), (44, bif L 7 then some (p4) else none), (45, bif L 8 then some (vU64 r2.At) else none)], [(some (cellsR b_m 89 [vm1, vm2]) : Option Res), (some (rowsX u8S true vm2 vsm1 m.b none) : Option Res), (some (cellsR b1 56 [.pointer (some ⟨b_m, 0, none⟩)]) : Option Res), (some (cellsR b2 30 [vU64 atp1]) : Option Res)], [Fact.sl RegionS vm1 m.l, (bif L 6 then Fact.pt RegionS p3 r2 else Fact.tt), (bif L 7 then Fact.pt u64S p4 r2.At else Fact.tt)]⟩ a w) [([], []), ([], [2, 3, 4, 6, 7, 8]), ([1], [3, 4, 6, 7, 8]), ([1, 2], [4, 6, 7, 8]), ([1, 2, 3], [6, 7, 8]), ([], [6, 7, 8]), ([1, 2, 3, 4, 5], [7, 8]), ([1, 2, 3, 4, 5, 6], [8]), ([1, 2, 3, 4, 5, 6, 7], [])] rfl (by kernel_rfl) ?_ (steps_cons ?_ (steps_cons ?_ (steps_cons ?_ (steps_cons ?_ (steps_cons ?_ (steps_cons ?_ (steps_cons ?_ (steps_cons ?_ (steps_cons ?_ (steps_nil)))))))))) ?_
      ·intro a w hs
       exact ⟨undef, undef, hs.startF [37, 38, 39, 40, 41, 42, 43, 44, 45] [0, 1, 2, 3] [0, 1, 2] rfl rfl rfl rfl⟩
      ·intro L a w hv K Q hK
       obtain ⟨p3, p4, hs⟩ := hv
       refine wpOp_go rfl rfl hs (OpT_loadC rfl rfl rfl rfl tyF30 (i := 3) rfl rfl) ?_
       rintro _ rfl a' w' hs'
       exact hK a' w' ⟨p3, p4, hs'.putF (i := 4) rfl [0, 1, 2, 3] [0, 1, 2] rfl rfl rfl rfl⟩
      ·intro L a w hv K Q hK
       obtain ⟨p3, p4, hs⟩ := hv
       refine wpOp_go rfl rfl hs (OpT_loadC rfl rfl rfl rfl tyF56 (i := 2) rfl rfl) ?_
       rintro _ rfl a' w' hs'
       exact hK a' w' ⟨p3, p4, hs'.putF (i := 5) rfl [0, 1, 2, 3] [0, 1, 2] rfl rfl rfl rfl⟩
      ·intro L a w hv K Q hK
       obtain ⟨p3, p4, hs⟩ := hv
       refine wpOp_go rfl rfl hs (OpT_nilCheckP rfl rfl rfl rfl) ?_
       rintro _ rfl a' w' hs'
       exact hK a' w' ⟨p3, p4, hs'.putF (i := 6) rfl [0, 1, 2, 3] [0, 1, 2] rfl rfl rfl rfl⟩
      ·intro L a w hv K Q hK
       obtain ⟨p3, p4, hs⟩ := hv
       refine wpOp_go rfl rfl hs (OpT_fieldC rfl rfl rfl rfl fldF89x0) ?_
       rintro _ rfl a' w' hs'
       exact hK a' w' ⟨p3, p4, hs'.putF (i := 7) rfl [0, 1, 2, 3] [0, 1, 2] rfl rfl rfl rfl⟩
      ·intro L a w hv K Q hK
       obtain ⟨p3, p4, hs⟩ := hv
       refine wpOp_go rfl rfl hs (OpT_loadC rfl rfl rfl rfl tyF61 (i := 0) rfl rfl) ?_
       rintro _ rfl a' w' hs'
       exact hK a' w' ⟨p3, p4, hs'.putF (i := 8) rfl [0, 1, 2, 3] [0, 1, 2] rfl rfl rfl rfl⟩
      ·intro L a w hv K Q hK
       obtain ⟨p3, p4, hs⟩ := hv
       refine wpOp_go rfl rfl hs (OpT_move rfl rfl rfl rfl) ?_
       rintro _ rfl a' w' hs'
       exact hK a' w' ⟨p3, p4, hs'.putF (i := 9) rfl [0, 1, 2, 3] [0, 1, 2] rfl rfl rfl rfl⟩
      ·intro L a w hv K Q hK
       obtain ⟨p3, p4, hs⟩ := hv
       refine wpOp_go rfl rfl hs (OpT_idxS rfl rfl rfl rfl rfl slF61 (i := 0) rfl hx3) ?_
       rintro _ ⟨p3', rfl⟩ a' w' hs'
       exact hK a' w' ⟨p3', p4, hs'.putF (i := 10) rfl [0, 1, 2, 3] [0, 3, 2] rfl rfl rfl rfl⟩
      ·intro L a w hv K Q hK
       obtain ⟨p3, p4, hs⟩ := hv
       refine wpOp_go rfl rfl hs (OpT_fieldP (S' := u64S) (y := r2.At) rfl rfl rfl rfl fldF60x0 (i := 1) rfl (by intro h cs hr; subst hr; rfl)) ?_
       rintro _ ⟨p4', rfl⟩ a' w' hs'
       exact hK a' w' ⟨p3, p4', hs'.putF (i := 11) rfl [0, 1, 2, 3] [0, 1, 3] rfl rfl rfl rfl⟩
      ·intro L a w hv K Q hK
       obtain ⟨p3, p4, hs⟩ := hv
       refine wpOp_go rfl rfl hs (OpT_loadP rfl rfl rfl rfl tyF30 (i := 2) rfl rfl) ?_
       rintro _ rfl a' w' hs'
       exact hK a' w' ⟨p3, p4, hs'.putF (i := 12) rfl [0, 1, 2, 3] [0, 1, 2] rfl rfl rfl rfl⟩
      ·intro L a w hL hv
       rw [allTrue hL] at hv
       obtain ⟨p3, p4, hs⟩ := hv
       refine gZ hs [2, 3, 7, 37, 45] [0, 1, 2] [0] rfl rfl rfl rfl ?_
       clear hs hL
       refine TA_step htb (by kernel_rfl) rfl rfl (OpT_bin rfl rfl rfl rfl rfl (bin_sub_u64 (a := atp1) (b := r2.At))) ?_
       refine TA_step htb (by kernel_rfl) rfl rfl (OpT_assign rfl rfl rfl rfl) ?_
       refine TA_end rfl ?_
       refine tZ [2, 3, 7, 8] [0, 1, 2] [0] rfl rfl rfl rfl ?_
       refine Tk_seq (Tk_seq (Tk_region (Tops_step rfl (OpT_move rfl rfl rfl rfl) ?_)))
       refine Tops_step rfl (OpT_loadC rfl rfl rfl rfl tyF56 (i := 2) rfl rfl) ?_
       refine Tops_step rfl (OpT_nilCheckP rfl rfl rfl rfl) ?_
       refine Tops_step rfl (OpT_fieldC rfl rfl rfl rfl fldF89x0) ?_
       refine Tops_step rfl (OpT_loadC rfl rfl rfl rfl tyF61 (i := 0) rfl rfl) ?_
       refine Tops_step rfl (OpT_move rfl rfl rfl rfl) ?_
       obtain ⟨r3, hx4, h⟩ := ob_e h
       refine Tops_ex rfl (OpT_idxS rfl rfl rfl rfl rfl slF61 (i := 0) rfl hx4) fun p5 => ?_
       refine Tops_ex rfl (OpT_fieldP (S' := u64S) (y := r3.Len) rfl rfl rfl rfl fldF60x1 (i := 1) rfl (by intro h cs hr; subst hr; rfl)) fun p6 => ?_
       refine Tops_step rfl (OpT_loadP rfl rfl rfl rfl tyF30 (i := 2) rfl rfl) ?_
       refine Tops_step rfl (OpT_move rfl rfl rfl rfl) ?_
       refine Tops_step rfl (OpT_bin rfl rfl rfl rfl rfl (bin_sub_u64 (a := r3.Len) (b := atp1 - r2.At))) ?_
       refine Tops_step rfl (OpT_bin rfl rfl rfl rfl rfl (bin_gtr_u64 (a := np2) (b := r3.Len - (atp1 - r2.At)))) ?_
       refine Tops_nil (tZ [2, 3, 7, 8, 58] [0, 1, 2] [0] rfl rfl rfl rfl ?_)
       rcases Bool.eq_false_or_eq_true (decide (np2 > (r3.Len - (atp1 - r2.At)))) with hg4 | hg4
       ·replace h := br_t hg4 h
        refine Tk_condT (congrArg (fun b => some (Value.bool b)) hg4) ?_
        refine Tk_seq (Tk_region (Tops_step rfl (OpT_assign rfl rfl rfl rfl) ?_))
        refine Tops_nil (tZ [6] [0, 1] [0] rfl rfl rfl rfl ?_)
        obtain rfl := Option.some.inj h
        exact Tk_retV rfl rfl (resA (vs := [.slice none 0 0]) rfl ⟨rfl, trivial⟩) [0, 1] [] rfl rfl rfl ⟨rfl, rfl, rfl⟩
       ·replace h := br_f hg4 h
        refine Tk_condF (congrArg (fun b => some (Value.bool b)) hg4) ?_
        refine Tk_skip (Tk_seq (Tk_region (Tops_step rfl (OpT_loadC rfl rfl rfl rfl tyF56 (i := 2) rfl rfl) ?_)))
        refine Tops_step rfl (OpT_nilCheckP rfl rfl rfl rfl) ?_
        refine Tops_step rfl (OpT_fieldC rfl rfl rfl rfl fldF89x1) ?_
        refine Tops_step rfl (OpT_loadC rfl rfl rfl rfl tyF87 (i := 0) rfl rfl) ?_
        refine Tops_step rfl (OpT_move rfl rfl rfl rfl) ?_
        obtain ⟨row1, hx5, h⟩ := ob_e h
        refine Tops_step rfl (OpT_idxRows rfl rfl rfl rfl rfl slF87 (i := 1) rfl hx5) ?_
        refine Tops_vs (vs_focus (i := 1) (j := search1) rfl hx5) ?_
        refine Tops_step rfl (OpT_loadRow (m := search1) rfl rfl rfl rfl tyF26 (i := 1) rfl) ?_
        refine Tops_step rfl (OpT_move rfl rfl rfl rfl) ?_
        refine Tops_step rfl (OpT_move rfl rfl rfl rfl) ?_
        refine Tops_step rfl (OpT_move rfl rfl rfl rfl) ?_
        refine Tops_step rfl (OpT_bin rfl rfl rfl rfl rfl (bin_add_u64 (a := atp1 - r2.At) (b := np2))) ?_
        obtain ⟨hc1, h⟩ := chk_e h
        refine Tops_step rfl (OpT_subLH (S := u8S) (l := ((atp1 - r2.At).toNat : Int)) (m := (((atp1 - r2.At) + np2).toNat : Int)) rfl rfl rfl rfl rfl rfl slF26 (i := 3) rfl hc1) ?_
        refine Tops_step rfl (OpT_assign rfl rfl rfl rfl) ?_
        refine Tops_nil (tZ [6] [0, 1, 3] [0] rfl rfl rfl rfl ?_)
        refine Tk_vs (vs_unfocus0 (i := 1) (q := 2) rfl rfl rfl hx5) ?_
        obtain rfl := Option.some.inj h
        exact Tk_retV rfl rfl (resA (vs := [subV (vsAt vsm1 (Int.toNat search1)) 1 (Int.toNat ((atp1 - r2.At).toNat : Int)) (Int.toNat (((atp1 - r2.At) + np2).toNat : Int))]) rfl ⟨rfl, trivial⟩) [0, 1] [] rfl rfl rfl ⟨rfl, rfl, rfl⟩

set_option maxRecDepth 100000 in
set_option maxHeartbeats 4000000 in
theorem w_gmem_Mem_Write {m : gmem_Mem} {atp1 : UInt64} {arg2 : List UInt8} {b_m : Nat} {vm1 : Value} {vm2 : Value} {vsm1 : List Value} {varg21 : Value} {r : (Int × (List (List UInt8)))} (h : gmem_Mem_Write m atp1 arg2 = some r) :
  Ctr Try.prog 20 #[.pointer (some ⟨b_m, 0, none⟩), vU64 atp1, varg21] [(cellsR b_m 89 [vm1, vm2]), (rowsX u8S true vm2 vsm1 m.b none)] [Fact.sl RegionS vm1 m.l, Fact.sl u8S varg21 arg2]
   (fun rv own shr => rv = vI r.1 ∧ own = [(cellsR b_m 89 [vm1, vm2]), (rowsX u8S true vm2 vsm1 r.2 none)] ∧ shr = []) := by
 unfold gmem_Mem_Write at h
 refine Ctr.mk (args := [.pointer (some ⟨b_m, 0, none⟩), vU64 atp1, varg21]) Try.func20 rfl rfl (fun R0 w0 B => ?_)
 refine Tk_seq (Tk_region (Tops_step rfl (OpT_assign rfl rfl rfl rfl) ?_))
 refine Tops_nil (tZ [0, 1, 2] [0, 1] [0, 1] rfl rfl rfl rfl ?_)
 refine Tk_seq (Tk_seq (Tk_region (Tops_step rfl (OpT_move rfl rfl rfl rfl) ?_)))
 obtain ⟨made1, hx1, h⟩ := ob_e h
 refine Tops_exP rfl (OpT_callP [2, 3] (w_gmem_Mem_made hx1) [0, 1] [0] rfl rfl rfl rfl rfl callee32 rfl rfl rfl rfl rfl) ?_
 rintro _ ⟨_, _, _, ⟨rfl, rfl, rfl⟩, rfl⟩
 refine Tops_step rfl (OpT_not rfl rfl rfl rfl) ?_
 refine Tops_nil (tZ [0, 1, 2, 10] [0, 1] [0, 1] rfl rfl rfl rfl ?_)
 refine Tk_condF (congrArg (fun b => some (Value.bool b)) (congrArg (!·) (Option.some.inj (show some true = some made1 from hx1)).symm)) ?_
 refine Tk_skip (Tk_seq (Tk_seq (Tk_region (Tops_step rfl (OpT_move rfl rfl rfl rfl) ?_))))
 refine Tops_step rfl (OpT_lenS rfl rfl rfl rfl Try.underlying26 (i := 1) rfl) ?_
 refine Tops_step rfl (OpT_bin rfl rfl rfl rfl rfl (bin_eql_i (a := len arg2) (b := (0 : Int)))) ?_
 refine Tops_nil (tZ [0, 1, 2, 13] [0, 1] [0, 1] rfl rfl rfl rfl ?_)
 rcases Bool.eq_false_or_eq_true ((len arg2) == (0 : Int)) with hg1 | hg1
 ·replace h := br_t hg1 h
  refine Tk_condT (congrArg (fun b => some (Value.bool b)) hg1) ?_
  refine Tk_seq (Tk_region (Tops_step rfl (OpT_assign rfl rfl rfl rfl) ?_))
  refine Tops_nil (tZ [6] [0, 1] [0] rfl rfl rfl rfl ?_)
  obtain rfl := Option.some.inj h
  exact Tk_retV rfl rfl (resA (vs := [vI (0 : Int)]) rfl ⟨rfl, trivial⟩) [0, 1] [] rfl rfl rfl ⟨rfl, rfl, rfl⟩
 ·replace h := br_f hg1 h
  refine Tk_condF (congrArg (fun b => some (Value.bool b)) hg1) ?_
  refine Tk_skip (Tk_seq (Tk_region (Tops_step rfl (OpT_move rfl rfl rfl rfl) ?_)))
  refine Tops_step rfl (OpT_move rfl rfl rfl rfl) ?_
  refine Tops_step rfl (OpT_move rfl rfl rfl rfl) ?_
  refine Tops_step rfl (OpT_lenS rfl rfl rfl rfl Try.underlying26 (i := 1) rfl) ?_
  refine Tops_step rfl (OpT_cnv rfl rfl rfl rfl (cnv_i_u64 (n := len arg2) Try.underlying3 Try.underlying30)) ?_
  obtain ⟨bytes1, hx2, h⟩ := ob_e h
  refine Tops_exP rfl (OpT_callP [2, 3] (w_gmem_Mem_bytes hx2) [0, 1] [0] rfl rfl rfl rfl rfl callee33 rfl rfl rfl rfl rfl) ?_
  rintro _ ⟨_, _, _, ⟨rfl, rfl, rfl⟩, rfl⟩
  refine Tops_step rfl (OpT_assign rfl rfl rfl rfl) ?_
  refine Tops_nil (tZ [2, 7] [0, 1] [0, 1] rfl rfl rfl rfl ?_)
  rcases onO_cases h with ⟨ho1, h⟩ | ⟨w1, ho1, h⟩
  ·refine Tk_eqv (x := winV 1 vsm1 bytes1) (y := .slice none 0 0) (by rw [ho1]; rfl) (fun z => ⟨[(2, some (varg21)), (7, some (z))], [some (cellsR b_m 89 [vm1, vm2]), some (rowsX u8S true vm2 vsm1 m.b none)], [Fact.sl RegionS vm1 m.l, Fact.sl u8S varg21 arg2]⟩) ?_
   refine Tk_seq (Tk_seq (Tk_region (Tops_step rfl (OpT_move rfl rfl rfl rfl) ?_)))
   refine Tops_step rfl (OpT_eqNilN rfl rfl rfl (.inl rfl) rfl rfl Try.underlying26) ?_
   refine Tops_nil (tZ [2, 7, 21] [0, 1] [0, 1] rfl rfl rfl rfl ?_)
   refine Tk_condT rfl ?_
   refine Tk_seq (Tk_region (Tops_step rfl (OpT_assign rfl rfl rfl rfl) ?_))
   refine Tops_nil (tZ [6] [0, 1] [0] rfl rfl rfl rfl ?_)
   obtain rfl := Option.some.inj h
   exact Tk_retV rfl rfl (resA (vs := [vI (5 : Int)]) rfl ⟨rfl, trivial⟩) [0, 1] [] rfl rfl rfl ⟨rfl, rfl, rfl⟩
  ·refine Tk_eqv (x := winV 1 vsm1 bytes1) (y := subV (vsAt vsm1 (Int.toNat w1.1)) 1 (Int.toNat w1.2.1) (Int.toNat w1.2.2)) (by rw [ho1]; rfl) (fun z => ⟨[(2, some (varg21)), (7, some (z))], [some (cellsR b_m 89 [vm1, vm2]), some (rowsX u8S true vm2 vsm1 m.b none)], [Fact.sl RegionS vm1 m.l, Fact.sl u8S varg21 arg2]⟩) ?_
   obtain ⟨row1, hx3, h⟩ := ob_e h
   refine Tk_vs (vs_focus (i := 1) (j := w1.1) rfl hx3) ?_
   obtain ⟨hc1, h⟩ := chk_e h
   refine Tk_seq (Tk_seq (Tk_region (Tops_step rfl (OpT_move rfl rfl rfl rfl) ?_)))
   obtain ⟨hc2, h⟩ := chk_e h
   refine Tops_step rfl (OpT_eqSub (S := u8S) (l := w1.2.1) (m := w1.2.2) rfl rfl rfl (.inl rfl) rfl rfl Try.underlying26 (i := 2) rfl hc1 hc2) ?_
   refine Tops_nil (tZ [2, 7, 21] [0, 1, 2] [0, 1] rfl rfl rfl rfl ?_)
   refine Tk_condF rfl ?_
   refine Tk_skip (Tk_seq (Tk_region (Tops_step rfl (OpT_move rfl rfl rfl rfl) ?_)))
   refine Tops_step rfl (OpT_move rfl rfl rfl rfl) ?_
   refine Tops_step rfl (OpT_copyS (S := u8S) (l := w1.2.1) (m := w1.2.2) rfl rfl rfl rfl rfl rfl slF26 (i := 2) (j := 1) rfl rfl hc1) ?_
   refine Tops_nil (tZ [] [0, 1, 2] [0] rfl rfl rfl rfl ?_)
   refine Tk_vs (vs_unfocus (i := 1) (q := 2) rfl rfl rfl) ?_
   refine Tk_seq (Tk_region (Tops_step rfl (OpT_assign rfl rfl rfl rfl) ?_))
   refine Tops_nil (tZ [6] [0, 1] [0] rfl rfl rfl rfl ?_)
   obtain rfl := Option.some.inj h
   exact Tk_retV rfl rfl (resA (vs := [vI (0 : Int)]) rfl ⟨rfl, trivial⟩) [0, 1] [] rfl rfl rfl ⟨rfl, rfl, rfl⟩

set_option maxRecDepth 100000 in
set_option maxHeartbeats 4000000 in
theorem wb_seg_Check_1 {arg0 : Int} {arg1 : UInt64} {b_arg0 : Nat} {b_arg1 : Nat} {r : Int} (h : seg_Check_1 arg0 arg1 = some r) :
  BodyOk Try.prog 61 [.pointer (some ⟨b_arg0, 0, none⟩), .pointer (some ⟨b_arg1, 0, none⟩)] [(cellsR b_arg0 23 [vI arg0]), (cellsR b_arg1 30 [vU64 arg1])] []
   (fun rv own shr => rv = .tuple #[] ∧ own = [(cellsR b_arg0 23 [vI r]), (cellsR b_arg1 30 [vU64 arg1])] ∧ shr = []) := by
 unfold seg_Check_1 at h
 refine BodyOk.mk Try.func61 rfl rfl (fun R0 w0 B => ?_)
 refine Tk_seq (Tk_region (Tops_step rfl (OpT_loadC rfl rfl rfl rfl tyF23 (i := 0) rfl rfl) ?_))
 refine Tops_step rfl (OpT_bin rfl rfl rfl rfl rfl (bin_eql_i (a := arg0) (b := (0 : Int)))) ?_
 refine Tops_step rfl (OpT_move rfl rfl rfl rfl) ?_
 rcases Bool.eq_false_or_eq_true (arg0 == (0 : Int)) with hg1 | hg1
 ·replace h := br_t hg1 h
  refine Tops_yes rfl rfl (congrArg (fun b => some (Value.bool b)) hg1) (OpT_loadC rfl rfl rfl rfl tyF30 (i := 1) rfl rfl) ?_
  rintro _ rfl
  refine Tops_yes rfl rfl (congrArg (fun b => some (Value.bool b)) hg1) (OpT_bin rfl rfl rfl rfl rfl (bin_geq_u64 (a := arg1) (b := (4294967296 : UInt64)))) ?_
  rintro _ rfl
  refine Tops_step rfl (OpT_pickT rfl rfl rfl (congrArg (fun b => some (Value.bool b)) hg1) rfl) ?_
  refine Tops_nil (tZ [0, 7] [0, 1] [] rfl rfl rfl rfl ?_)
  rcases Bool.eq_false_or_eq_true (decide (arg1 ≥ (4294967296 : UInt64))) with hg2 | hg2
  ·replace h := br_t hg2 h
   refine Tk_condT (congrArg (fun b => some (Value.bool b)) hg2) ?_
   refine Tk_region (Tops_step rfl (OpT_storeC (cs' := [vI (2 : Int)]) rfl rfl rfl rfl tyF23 (i := 0) rfl rfl rfl (one_of rfl) rfl) ?_)
   refine Tops_nil ?_
   obtain rfl := Option.some.inj h
   exact Tk_endV rfl rfl (resA (vs := []) rfl trivial) [0, 1] [] rfl rfl rfl ⟨rfl, rfl, rfl⟩
  ·replace h := br_f hg2 h
   refine Tk_condF (congrArg (fun b => some (Value.bool b)) hg2) ?_
   refine Tk_skip ?_
   obtain rfl := Option.some.inj h
   exact Tk_endV rfl rfl (resA (vs := []) rfl trivial) [0, 1] [] rfl rfl rfl ⟨rfl, rfl, rfl⟩
 ·replace h := br_f hg1 h
  refine Tops_no rfl rfl (congrArg (fun b => some (Value.bool b)) hg1) rfl rfl ?_
  refine Tops_no rfl rfl (congrArg (fun b => some (Value.bool b)) hg1) rfl rfl ?_
  refine Tops_step rfl (OpT_pickF rfl rfl rfl (congrArg (fun b => some (Value.bool b)) hg1) rfl) ?_
  refine Tops_nil (tZ [0, 7] [0, 1] [] rfl rfl rfl rfl ?_)
  refine Tk_condF rfl ?_
  refine Tk_skip ?_
  obtain rfl := Option.some.inj h
  exact Tk_endV rfl rfl (resA (vs := []) rfl trivial) [0, 1] [] rfl rfl rfl ⟨rfl, rfl, rfl⟩

set_option maxRecDepth 100000 in
set_option maxHeartbeats 4000000 in
theorem w_seg_Check {l : List Seg} {vl1 : Value} {r : Int} (h : seg_Check l = some r) :
  Ctr Try.prog 52 #[vl1] [] [Fact.sl SegS vl1 l]
   (fun rv own shr => rv = vI r ∧ own = [] ∧ shr = []) := by
 unfold seg_Check at h
 refine Ctr.mkD (args := [vl1]) Try.func52 rfl rfl (fun R0 w0 B => ?_)
 refine Tk_seq (Tk_region (Tops_ex rfl (OpT_alloc rfl rfl rfl tyZ23) fun b1 => ?_))
 refine Tops_nil (Tk_seq (Tk_seq (Tk_region (Tops_step rfl (OpT_move rfl rfl rfl rfl) ?_))))
 refine Tops_step rfl (OpT_lenS rfl rfl rfl rfl Try.underlying52 (i := 0) rfl) ?_
 refine Tops_step rfl (OpT_bin rfl rfl rfl rfl rfl (bin_gtr_i (a := len l) (b := (64 : Int)))) ?_
 refine Tops_nil (tZ [0, 2, 8] [0] [0] rfl rfl rfl rfl ?_)
 rcases Bool.eq_false_or_eq_true (decide ((len l) > (64 : Int))) with hg1 | hg1
 ·replace h := br_t hg1 h
  refine Tk_condT (congrArg (fun b => some (Value.bool b)) hg1) ?_
  refine Tk_seq (Tk_region (Tops_step rfl (OpT_storeC (cs' := [vI (3 : Int)]) rfl rfl rfl rfl tyF23 (i := 0) rfl rfl rfl (one_of rfl) rfl) ?_))
  refine Tops_nil (tZ [2] [0] [] rfl rfl rfl rfl ?_)
  obtain rfl := Option.some.inj h
  refine Tk_retE rfl rfl ?_
  exact Tleave_mk (resA (vs := [vI (3 : Int)]) rfl ⟨⟨_, 0, _, _, _, rfl, rfl, .inr ⟨tyF23, rfl⟩⟩, trivial⟩) [] [] rfl rfl rfl ⟨rfl, rfl, rfl⟩
 ·replace h := br_f hg1 h
  refine Tk_condF (congrArg (fun b => some (Value.bool b)) hg1) ?_
  refine Tk_skip (Tk_seq (Tk_region (Tops_ex rfl (OpT_alloc rfl rfl rfl tyZ30) fun b2 => ?_)))
  refine Tops_step rfl (OpT_storeC (cs' := [vU64 (0 : UInt64)]) rfl rfl rfl rfl tyF30 (i := 1) rfl rfl rfl (one_of rfl) rfl) ?_
  refine Tops_nil (tZ [0, 2, 3] [0, 1] [0] rfl rfl rfl rfl ?_)
  refine Tk_seq (Tk_region (Tops_step rfl (OpT_makeFunc (vs := [.pointer (some ⟨b1, 0, none⟩), .pointer (some ⟨b2, 0, none⟩)]) rfl rfl rfl rfl) ?_))
  refine Tops_defer (f := 61) (cp := [.pointer (some ⟨b1, 0, none⟩), .pointer (some ⟨b2, 0, none⟩)]) rfl rfl rfl rfl ?_
  refine Tops_nil (tZ [0, 2, 3] [0, 1] [0] rfl rfl rfl rfl ?_)
  refine Tk_seq (Tk_seq (Tk_region (Tops_step rfl (OpT_move rfl rfl rfl rfl) ?_)))
  refine Tops_step rfl (OpT_lenS rfl rfl rfl rfl Try.underlying52 (i := 0) rfl) ?_
  refine Tops_step rfl (OpT_move rfl rfl rfl rfl) ?_
  refine Tops_nil (Tk_block (Tk_loopS (σ := Int × UInt64 × Int) [0, 2, 3, 10, 11, 12] [0, 1] [0] (fun s => ⟨[(0, some (vl1)), (2, some (.pointer (some ⟨b1, 0, none⟩))), (3, some (.pointer (some ⟨b2, 0, none⟩))), (10, some (vl1)), (11, some (vI (len l))), (12, some (vI s.2.2))], [some (cellsR b1 23 [vI s.1]), some (cellsR b2 30 [vU64 s.2.1])], [Fact.sl SegS vl1 l]⟩) (fun nf1 s => seg_CheckL1 l nf1 s.1 s.2.1 s.2.2 = some r) fuel ((0 : Int), (0 : UInt64), (0 : Int)) h rfl rfl rfl rfl rfl (fun s h => by cases h) ?_))
  rintro nf1 ⟨m1, m2, x1⟩ h
  replace h : seg_CheckL1B l (seg_CheckL1 l nf1) m1 m2 x1 = some r := h
  unfold seg_CheckL1B at h
  refine Tk_seq (Tk_region (Tops_step rfl (OpT_bin rfl rfl rfl rfl rfl (bin_lss_i (a := x1) (b := len l))) ?_))
  refine Tops_nil (Tk_seq ?_)
  rcases Bool.eq_false_or_eq_true (decide (x1 < (len l))) with hg2 | hg2
  ·replace h := br_t hg2 h
   refine Tk_condT (congrArg (fun b => some (Value.bool b)) hg2) ?_
   refine Tk_skip (Tk_seq (Tk_block (Tk_seq (Tk_region (Tops_step rfl (OpT_move rfl rfl rfl rfl) ?_)))))
   obtain ⟨s1, hx1, h⟩ := ob_e h
   refine Tops_ex rfl (OpT_idxS rfl rfl rfl rfl rfl slF52 (i := 0) rfl hx1) fun p1 => ?_
   refine Tops_step rfl (OpT_loadPA (vs := [vU64 s1.At, vU32 s1.Len, vB s1.Write]) rfl rfl rfl rfl tyF51 (i := 1) rfl rfl) ?_
   refine Tops_ex rfl (OpT_alloc rfl rfl rfl tyZ51) fun b3 => ?_
   refine Tops_step rfl (OpT_assign rfl rfl rfl rfl) ?_
   refine Tops_step rfl (OpT_storeC (cs' := [vU64 s1.At, vU32 s1.Len, vB s1.Write]) rfl rfl rfl rfl tyF51 (i := 2) rfl rfl rfl (one_of rfl) rfl) ?_
   refine Tops_nil (tZ [0, 2, 3, 10, 11, 12, 5, 4] [0, 1, 2] [0] rfl rfl rfl rfl ?_)
   refine Tk_seq (Tk_seq (Tk_region (Tops_step rfl (OpT_fieldC rfl rfl rfl rfl fldF51x1) ?_)))
   refine Tops_step rfl (OpT_loadC rfl rfl rfl rfl tyF29 (i := 2) rfl rfl) ?_
   refine Tops_step rfl (OpT_bin rfl rfl rfl rfl rfl (bin_lss_u32 (a := s1.Len) (b := (1 : UInt32)))) ?_
   refine Tops_step rfl (OpT_move rfl rfl rfl rfl) ?_
   rcases Bool.eq_false_or_eq_true (decide (s1.Len < (1 : UInt32))) with hg3 | hg3
   ·replace h := br_t hg3 h
    refine Tops_no rfl rfl (congrArg (fun b => some (Value.bool b)) hg3) rfl rfl ?_
    refine Tops_no rfl rfl (congrArg (fun b => some (Value.bool b)) hg3) rfl rfl ?_
    refine Tops_no rfl rfl (congrArg (fun b => some (Value.bool b)) hg3) rfl rfl ?_
    refine Tops_no rfl rfl (congrArg (fun b => some (Value.bool b)) hg3) rfl rfl ?_
    refine Tops_no rfl rfl (congrArg (fun b => some (Value.bool b)) hg3) rfl rfl ?_
    refine Tops_no rfl rfl (congrArg (fun b => some (Value.bool b)) hg3) rfl rfl ?_
    refine Tops_no rfl rfl (congrArg (fun b => some (Value.bool b)) hg3) rfl rfl ?_
    refine Tops_no rfl rfl (congrArg (fun b => some (Value.bool b)) hg3) rfl rfl ?_
    refine Tops_step rfl (OpT_pickT rfl rfl rfl (congrArg (fun b => some (Value.bool b)) hg3) rfl) ?_
    refine Tops_step rfl (OpT_move rfl rfl rfl rfl) ?_
    refine Tops_no rfl rfl rfl rfl rfl ?_
    refine Tops_no rfl rfl rfl rfl rfl ?_
    refine Tops_no rfl rfl rfl rfl rfl ?_
    refine Tops_noU rfl rfl rfl rfl rfl ?_
    refine Tops_noU rfl rfl rfl rfl rfl ?_
    refine Tops_noU rfl rfl rfl rfl rfl ?_
    refine Tops_noU rfl rfl rfl rfl rfl ?_
    refine Tops_noU rfl rfl rfl rfl rfl ?_
    refine Tops_noU rfl rfl rfl rfl rfl ?_
    refine Tops_no rfl rfl rfl rfl rfl ?_
    refine Tops_no rfl rfl rfl rfl rfl ?_
    refine Tops_noU rfl rfl rfl rfl rfl ?_
    refine Tops_noU rfl rfl rfl rfl rfl ?_
    refine Tops_noU rfl rfl rfl rfl rfl ?_
    refine Tops_no rfl rfl rfl rfl rfl ?_
    refine Tops_step rfl (OpT_pickT rfl rfl rfl rfl rfl) ?_
    refine Tops_nil (tZ [0, 2, 3, 10, 11, 12, 5, 46] [0, 1, 2] [0] rfl rfl rfl rfl ?_)
    refine Tk_condT rfl ?_
    refine Tk_seq (Tk_region (Tops_step rfl (OpT_storeC (cs' := [vI (2 : Int)]) rfl rfl rfl rfl tyF23 (i := 0) rfl rfl rfl (one_of rfl) rfl) ?_))
    refine Tops_nil (tZ [2] [0, 1] [] rfl rfl rfl rfl ?_)
    obtain ⟨check1, hx2, h⟩ := ob_e h
    obtain rfl := Option.some.inj h
    refine Tk_retD rfl (f := 61) (cp := [.pointer (some ⟨b1, 0, none⟩), .pointer (some ⟨b2, 0, none⟩)]) rfl callee61 (wb_seg_Check_1 hx2).ctrD [0, 1] [] rfl rfl rfl ?_
    rintro _ _ _ ⟨rfl, rfl, rfl⟩
    exact Tleave_mk (resA (vs := [vI check1]) rfl ⟨⟨_, 2, _, _, _, rfl, rfl, .inr ⟨tyF23, rfl⟩⟩, trivial⟩) [] [] rfl rfl rfl ⟨rfl, rfl, rfl⟩
   ·replace h := br_f hg3 h
    refine Tops_yes rfl rfl (congrArg (fun b => some (Value.bool b)) hg3) (OpT_fieldC rfl rfl rfl rfl fldF51x1) ?_
    rintro _ rfl
    refine Tops_yes rfl rfl (congrArg (fun b => some (Value.bool b)) hg3) (OpT_loadC rfl rfl rfl rfl tyF29 (i := 2) rfl rfl) ?_
    rintro _ rfl
    refine Tops_yes rfl rfl (congrArg (fun b => some (Value.bool b)) hg3) (OpT_cnv rfl rfl rfl rfl (cnv_u32_u64 (n := s1.Len) Try.underlying29 Try.underlying30)) ?_
    rintro _ rfl
    refine Tops_yes rfl rfl (congrArg (fun b => some (Value.bool b)) hg3) (OpT_bin rfl rfl rfl rfl rfl (bin_sub_u64 (a := s1.Len.toUInt64) (b := (1 : UInt64)))) ?_
    rintro _ rfl
    refine Tops_yes rfl rfl (congrArg (fun b => some (Value.bool b)) hg3) (OpT_fieldC rfl rfl rfl rfl fldF51x0) ?_
    rintro _ rfl
    refine Tops_yes rfl rfl (congrArg (fun b => some (Value.bool b)) hg3) (OpT_loadC rfl rfl rfl rfl tyF30 (i := 2) rfl rfl) ?_
    rintro _ rfl
    refine Tops_yes rfl rfl (congrArg (fun b => some (Value.bool b)) hg3) (OpT_bin rfl rfl rfl rfl rfl (bin_sub_u64 (a := (18446744073709551615 : UInt64)) (b := s1.At))) ?_
    rintro _ rfl
    refine Tops_yes rfl rfl (congrArg (fun b => some (Value.bool b)) hg3) (OpT_bin rfl rfl rfl rfl rfl (bin_gtr_u64 (a := s1.Len.toUInt64 - (1 : UInt64)) (b := (18446744073709551615 : UInt64) - s1.At))) ?_
    rintro _ rfl
    refine Tops_step rfl (OpT_pickF rfl rfl rfl (congrArg (fun b => some (Value.bool b)) hg3) rfl) ?_
    refine Tops_step rfl (OpT_move rfl rfl rfl rfl) ?_
    rcases Bool.eq_false_or_eq_true (decide ((s1.Len.toUInt64 - (1 : UInt64)) > ((18446744073709551615 : UInt64) - s1.At))) with hg4 | hg4
    ·replace h := br_t hg4 h
     refine Tops_no rfl rfl (congrArg (fun b => some (Value.bool b)) hg4) rfl rfl ?_
     refine Tops_no rfl rfl (congrArg (fun b => some (Value.bool b)) hg4) rfl rfl ?_
     refine Tops_no rfl rfl (congrArg (fun b => some (Value.bool b)) hg4) rfl rfl ?_
     refine Tops_noU rfl rfl rfl rfl rfl ?_
     refine Tops_noU rfl rfl rfl rfl rfl ?_
     refine Tops_noU rfl rfl rfl rfl rfl ?_
     refine Tops_noU rfl rfl rfl rfl rfl ?_
     refine Tops_noU rfl rfl rfl rfl rfl ?_
     refine Tops_noU rfl rfl rfl rfl rfl ?_
     refine Tops_no rfl rfl (congrArg (fun b => some (Value.bool b)) hg4) rfl rfl ?_
     refine Tops_no rfl rfl (congrArg (fun b => some (Value.bool b)) hg4) rfl rfl ?_
     refine Tops_noU rfl rfl rfl rfl rfl ?_
     refine Tops_noU rfl rfl rfl rfl rfl ?_
     refine Tops_noU rfl rfl rfl rfl rfl ?_
     refine Tops_no rfl rfl (congrArg (fun b => some (Value.bool b)) hg4) rfl rfl ?_
     refine Tops_step rfl (OpT_pickT rfl rfl rfl (congrArg (fun b => some (Value.bool b)) hg4) rfl) ?_
     refine Tops_nil (tZ [0, 2, 3, 10, 11, 12, 5, 46] [0, 1, 2] [0] rfl rfl rfl rfl ?_)
     refine Tk_condT rfl ?_
     refine Tk_seq (Tk_region (Tops_step rfl (OpT_storeC (cs' := [vI (2 : Int)]) rfl rfl rfl rfl tyF23 (i := 0) rfl rfl rfl (one_of rfl) rfl) ?_))
     refine Tops_nil (tZ [2] [0, 1] [] rfl rfl rfl rfl ?_)
     obtain ⟨check2, hx3, h⟩ := ob_e h
     obtain rfl := Option.some.inj h
     refine Tk_retD rfl (f := 61) (cp := [.pointer (some ⟨b1, 0, none⟩), .pointer (some ⟨b2, 0, none⟩)]) rfl callee61 (wb_seg_Check_1 hx3).ctrD [0, 1] [] rfl rfl rfl ?_
     rintro _ _ _ ⟨rfl, rfl, rfl⟩
     exact Tleave_mk (resA (vs := [vI check2]) rfl ⟨⟨_, 2, _, _, _, rfl, rfl, .inr ⟨tyF23, rfl⟩⟩, trivial⟩) [] [] rfl rfl rfl ⟨rfl, rfl, rfl⟩
    ·replace h := br_f hg4 h
     refine Tops_yes rfl rfl (congrArg (fun b => some (Value.bool b)) hg4) (OpT_move rfl rfl rfl rfl) ?_
     rintro _ rfl
     refine Tops_yes rfl rfl (congrArg (fun b => some (Value.bool b)) hg4) (OpT_bin rfl rfl rfl rfl rfl (bin_gtr_i (a := x1) (b := (0 : Int)))) ?_
     rintro _ rfl
     refine Tops_yes rfl rfl (congrArg (fun b => some (Value.bool b)) hg4) (OpT_move rfl rfl rfl rfl) ?_
     rintro _ rfl
     rcases Bool.eq_false_or_eq_true (decide (x1 > (0 : Int))) with hg5 | hg5
     ·replace h := br_t hg5 h
      refine Tops_yes rfl rfl (congrArg (fun b => some (Value.bool b)) hg5) (OpT_move rfl rfl rfl rfl) ?_
      rintro _ rfl
      refine Tops_yes rfl rfl (congrArg (fun b => some (Value.bool b)) hg5) (OpT_move rfl rfl rfl rfl) ?_
      rintro _ rfl
      refine Tops_yes rfl rfl (congrArg (fun b => some (Value.bool b)) hg5) (OpT_bin rfl rfl rfl rfl rfl (bin_sub_i (a := x1) (b := (1 : Int)))) ?_
      rintro _ rfl
      obtain ⟨s2, hx4, h⟩ := ob_e h
      refine Tops_yes rfl rfl (congrArg (fun b => some (Value.bool b)) hg5) (OpT_idxS rfl rfl rfl rfl rfl slF52 (i := 0) rfl hx4) ?_
      rintro _ ⟨p2, rfl⟩
      refine Tops_yes rfl rfl (congrArg (fun b => some (Value.bool b)) hg5) (OpT_fieldP (S' := bS) (y := s2.Write) rfl rfl rfl rfl fldF51x2 (i := 1) rfl (by intro h cs hr; subst hr; rfl)) ?_
      rintro _ ⟨p3, rfl⟩
      refine Tops_yes rfl rfl (congrArg (fun b => some (Value.bool b)) hg5) (OpT_loadP rfl rfl rfl rfl tyF4 (i := 2) rfl rfl) ?_
      rintro _ rfl
      refine Tops_yes rfl rfl (congrArg (fun b => some (Value.bool b)) hg4) (OpT_pickT rfl rfl rfl (congrArg (fun b => some (Value.bool b)) hg5) rfl) ?_
      rintro _ rfl
      refine Tops_yes rfl rfl (congrArg (fun b => some (Value.bool b)) hg4) (OpT_move rfl rfl rfl rfl) ?_
      rintro _ rfl
      rcases Bool.eq_false_or_eq_true (s2.Write) with hg6 | hg6
      ·replace h := br_t hg6 h
       refine Tops_yes rfl rfl (congrArg (fun b => some (Value.bool b)) hg6) (OpT_fieldC rfl rfl rfl rfl fldF51x2) ?_
       rintro _ rfl
       refine Tops_yes rfl rfl (congrArg (fun b => some (Value.bool b)) hg6) (OpT_loadC rfl rfl rfl rfl tyF4 (i := 2) rfl rfl) ?_
       rintro _ rfl
       refine Tops_yes rfl rfl (congrArg (fun b => some (Value.bool b)) hg6) (OpT_not rfl rfl rfl rfl) ?_
       rintro _ rfl
       refine Tops_yes rfl rfl (congrArg (fun b => some (Value.bool b)) hg4) (OpT_pickT rfl rfl rfl (congrArg (fun b => some (Value.bool b)) hg6) rfl) ?_
       rintro _ rfl
       refine Tops_step rfl (OpT_pickF rfl rfl rfl (congrArg (fun b => some (Value.bool b)) hg4) rfl) ?_
       refine Tops_nil (tZ [0, 2, 3, 10, 11, 12, 5, 46] [0, 1, 2] [0] rfl rfl rfl rfl ?_)
       rcases Bool.eq_false_or_eq_true ((!s1.Write)) with hg7 | hg7
       ·replace h := br_t hg7 h
        refine Tk_condT (congrArg (fun b => some (Value.bool b)) hg7) ?_
        refine Tk_seq (Tk_region (Tops_step rfl (OpT_storeC (cs' := [vI (2 : Int)]) rfl rfl rfl rfl tyF23 (i := 0) rfl rfl rfl (one_of rfl) rfl) ?_))
        refine Tops_nil (tZ [2] [0, 1] [] rfl rfl rfl rfl ?_)
        obtain ⟨check3, hx5, h⟩ := ob_e h
        obtain rfl := Option.some.inj h
        refine Tk_retD rfl (f := 61) (cp := [.pointer (some ⟨b1, 0, none⟩), .pointer (some ⟨b2, 0, none⟩)]) rfl callee61 (wb_seg_Check_1 hx5).ctrD [0, 1] [] rfl rfl rfl ?_
        rintro _ _ _ ⟨rfl, rfl, rfl⟩
        exact Tleave_mk (resA (vs := [vI check3]) rfl ⟨⟨_, 2, _, _, _, rfl, rfl, .inr ⟨tyF23, rfl⟩⟩, trivial⟩) [] [] rfl rfl rfl ⟨rfl, rfl, rfl⟩
       ·replace h := br_f hg7 h
        refine Tk_condF (congrArg (fun b => some (Value.bool b)) hg7) ?_
        refine Tk_skip (Tk_region (Tops_step rfl (OpT_loadC rfl rfl rfl rfl tyF30 (i := 1) rfl rfl) ?_))
        refine Tops_step rfl (OpT_fieldC rfl rfl rfl rfl fldF51x1) ?_
        refine Tops_step rfl (OpT_loadC rfl rfl rfl rfl tyF29 (i := 2) rfl rfl) ?_
        refine Tops_step rfl (OpT_cnv rfl rfl rfl rfl (cnv_u32_u64 (n := s1.Len) Try.underlying29 Try.underlying30)) ?_
        refine Tops_step rfl (OpT_bin rfl rfl rfl rfl rfl (bin_add_u64 (a := m2) (b := s1.Len.toUInt64))) ?_
        refine Tops_step rfl (OpT_storeC (cs' := [vU64 (m2 + s1.Len.toUInt64)]) rfl rfl rfl rfl tyF30 (i := 1) rfl rfl rfl (one_of rfl) rfl) ?_
        refine Tops_nil (tZ [0, 2, 3, 10, 11, 12] [0, 1] [0] rfl rfl rfl rfl ?_)
        refine Tk_blk (Tk_region (Tops_step rfl (OpT_bin rfl rfl rfl rfl rfl (bin_add_i (a := x1) (b := (1 : Int)))) ?_))
        refine Tops_step rfl (OpT_move rfl rfl rfl rfl) ?_
        refine Tops_nil (tZ [0, 2, 3, 10, 11, 12] [0, 1] [0] rfl rfl rfl rfl ?_)
        exact Tk_backS (m1, m2 + s1.Len.toUInt64, wi (x1 + (1 : Int))) h [0, 2, 3, 10, 11, 12] [0, 1] [0] rfl rfl rfl rfl rfl
      ·replace h := br_f hg6 h
       refine Tops_no rfl rfl (congrArg (fun b => some (Value.bool b)) hg6) rfl rfl ?_
       refine Tops_no rfl rfl (congrArg (fun b => some (Value.bool b)) hg6) rfl rfl ?_
       refine Tops_no rfl rfl (congrArg (fun b => some (Value.bool b)) hg6) rfl rfl ?_
       refine Tops_yes rfl rfl (congrArg (fun b => some (Value.bool b)) hg4) (OpT_pickF rfl rfl rfl (congrArg (fun b => some (Value.bool b)) hg6) rfl) ?_
       rintro _ rfl
       refine Tops_step rfl (OpT_pickF rfl rfl rfl (congrArg (fun b => some (Value.bool b)) hg4) rfl) ?_
       refine Tops_nil (tZ [0, 2, 3, 10, 11, 12, 5, 46] [0, 1, 2] [0] rfl rfl rfl rfl ?_)
       refine Tk_condF rfl ?_
       refine Tk_skip (Tk_region (Tops_step rfl (OpT_loadC rfl rfl rfl rfl tyF30 (i := 1) rfl rfl) ?_))
       refine Tops_step rfl (OpT_fieldC rfl rfl rfl rfl fldF51x1) ?_
       refine Tops_step rfl (OpT_loadC rfl rfl rfl rfl tyF29 (i := 2) rfl rfl) ?_
       refine Tops_step rfl (OpT_cnv rfl rfl rfl rfl (cnv_u32_u64 (n := s1.Len) Try.underlying29 Try.underlying30)) ?_
       refine Tops_step rfl (OpT_bin rfl rfl rfl rfl rfl (bin_add_u64 (a := m2) (b := s1.Len.toUInt64))) ?_
       refine Tops_step rfl (OpT_storeC (cs' := [vU64 (m2 + s1.Len.toUInt64)]) rfl rfl rfl rfl tyF30 (i := 1) rfl rfl rfl (one_of rfl) rfl) ?_
       refine Tops_nil (tZ [0, 2, 3, 10, 11, 12] [0, 1] [0] rfl rfl rfl rfl ?_)
       refine Tk_blk (Tk_region (Tops_step rfl (OpT_bin rfl rfl rfl rfl rfl (bin_add_i (a := x1) (b := (1 : Int)))) ?_))
       refine Tops_step rfl (OpT_move rfl rfl rfl rfl) ?_
       refine Tops_nil (tZ [0, 2, 3, 10, 11, 12] [0, 1] [0] rfl rfl rfl rfl ?_)
       exact Tk_backS (m1, m2 + s1.Len.toUInt64, wi (x1 + (1 : Int))) h [0, 2, 3, 10, 11, 12] [0, 1] [0] rfl rfl rfl rfl rfl
     ·replace h := br_f hg5 h
      refine Tops_no rfl rfl (congrArg (fun b => some (Value.bool b)) hg5) rfl rfl ?_
      refine Tops_no rfl rfl (congrArg (fun b => some (Value.bool b)) hg5) rfl rfl ?_
      refine Tops_no rfl rfl (congrArg (fun b => some (Value.bool b)) hg5) rfl rfl ?_
      refine Tops_no rfl rfl (congrArg (fun b => some (Value.bool b)) hg5) rfl rfl ?_
      refine Tops_no rfl rfl (congrArg (fun b => some (Value.bool b)) hg5) rfl rfl ?_
      refine Tops_no rfl rfl (congrArg (fun b => some (Value.bool b)) hg5) rfl rfl ?_
      refine Tops_yes rfl rfl (congrArg (fun b => some (Value.bool b)) hg4) (OpT_pickF rfl rfl rfl (congrArg (fun b => some (Value.bool b)) hg5) rfl) ?_
      rintro _ rfl
      refine Tops_yes rfl rfl (congrArg (fun b => some (Value.bool b)) hg4) (OpT_move rfl rfl rfl rfl) ?_
      rintro _ rfl
      refine Tops_no rfl rfl rfl rfl rfl ?_
      refine Tops_no rfl rfl rfl rfl rfl ?_
      refine Tops_no rfl rfl rfl rfl rfl ?_
      refine Tops_yes rfl rfl (congrArg (fun b => some (Value.bool b)) hg4) (OpT_pickF rfl rfl rfl rfl rfl) ?_
      rintro _ rfl
      refine Tops_step rfl (OpT_pickF rfl rfl rfl (congrArg (fun b => some (Value.bool b)) hg4) rfl) ?_
      refine Tops_nil (tZ [0, 2, 3, 10, 11, 12, 5, 46] [0, 1, 2] [0] rfl rfl rfl rfl ?_)
      refine Tk_condF rfl ?_
      refine Tk_skip (Tk_region (Tops_step rfl (OpT_loadC rfl rfl rfl rfl tyF30 (i := 1) rfl rfl) ?_))
      refine Tops_step rfl (OpT_fieldC rfl rfl rfl rfl fldF51x1) ?_
      refine Tops_step rfl (OpT_loadC rfl rfl rfl rfl tyF29 (i := 2) rfl rfl) ?_
      refine Tops_step rfl (OpT_cnv rfl rfl rfl rfl (cnv_u32_u64 (n := s1.Len) Try.underlying29 Try.underlying30)) ?_
      refine Tops_step rfl (OpT_bin rfl rfl rfl rfl rfl (bin_add_u64 (a := m2) (b := s1.Len.toUInt64))) ?_
      refine Tops_step rfl (OpT_storeC (cs' := [vU64 (m2 + s1.Len.toUInt64)]) rfl rfl rfl rfl tyF30 (i := 1) rfl rfl rfl (one_of rfl) rfl) ?_
      refine Tops_nil (tZ [0, 2, 3, 10, 11, 12] [0, 1] [0] rfl rfl rfl rfl ?_)
      refine Tk_blk (Tk_region (Tops_step rfl (OpT_bin rfl rfl rfl rfl rfl (bin_add_i (a := x1) (b := (1 : Int)))) ?_))
      refine Tops_step rfl (OpT_move rfl rfl rfl rfl) ?_
      refine Tops_nil (tZ [0, 2, 3, 10, 11, 12] [0, 1] [0] rfl rfl rfl rfl ?_)
      exact Tk_backS (m1, m2 + s1.Len.toUInt64, wi (x1 + (1 : Int))) h [0, 2, 3, 10, 11, 12] [0, 1] [0] rfl rfl rfl rfl rfl
  ·replace h := br_f hg2 h
   refine Tk_condF (congrArg (fun b => some (Value.bool b)) hg2) ?_
   refine Tk_exit _ rfl ?_
   refine Tk_seq (Tk_region (Tops_step rfl (OpT_storeC (cs' := [vI (0 : Int)]) rfl rfl rfl rfl tyF23 (i := 0) rfl rfl rfl (one_of rfl) rfl) ?_))
   refine Tops_nil (tZ [2] [0, 1] [] rfl rfl rfl rfl ?_)
   obtain ⟨check4, hx6, h⟩ := ob_e h
   obtain rfl := Option.some.inj h
   refine Tk_retD rfl (f := 61) (cp := [.pointer (some ⟨b1, 0, none⟩), .pointer (some ⟨b2, 0, none⟩)]) rfl callee61 (wb_seg_Check_1 hx6).ctrD [0, 1] [] rfl rfl rfl ?_
   rintro _ _ _ ⟨rfl, rfl, rfl⟩
   exact Tleave_mk (resA (vs := [vI check4]) rfl ⟨⟨_, 2, _, _, _, rfl, rfl, .inr ⟨tyF23, rfl⟩⟩, trivial⟩) [] [] rfl rfl rfl ⟨rfl, rfl, rfl⟩
end Go.Proofs.Ytjfdamiilndgeaa
