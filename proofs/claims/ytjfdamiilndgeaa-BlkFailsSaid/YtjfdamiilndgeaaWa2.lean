/- The functions do what the plain words say: each is walked once. No statement of the seat is proved here; no condition. -/
import Derived.Test.YtjfdamiilndgeaaWa1
namespace Go.Proofs.Ytjfdamiilndgeaa
attribute [local irreducible] sub
set_option maxRecDepth 100000 in
set_option maxHeartbeats 4000000 in
theorem w_law21zlives  {r : Bool} (h : law21zlives = some r) :
  Ctr Try.prog 11 #[] [] []
   (fun rv own shr => rv = vB r ∧ own = [] ∧ shr = []) := by
 unfold law21zlives at h
 refine Ctr.mk (args := []) Try.func11 rfl rfl (fun R0 w0 B => ?_)
 refine Tk_seq (Tk_region (Tops_step rfl (OpT_assign rfl rfl rfl rfl) ?_))
 refine Tops_nil (tZ [] [] [] rfl rfl rfl rfl ?_)
 refine Tk_seq (Tk_region ?_)
 obtain ⟨new1, hx1, h⟩ := ob_e h
 refine Tops_exP rfl (OpT_call (w_sectors_New hx1) [] [] rfl rfl rfl rfl rfl callee7 rfl rfl rfl rfl) ?_
 rintro _ ⟨_, _, _, ⟨v1, rfl, rfl, rfl⟩, rfl⟩
 refine Tops_step rfl (OpT_move rfl rfl rfl rfl) ?_
 refine Tops_step rfl (OpT_extract rfl rfl rfl rfl rfl) ?_
 refine Tops_step rfl (OpT_extract rfl rfl rfl rfl rfl) ?_
 refine Tops_step rfl (OpT_assign rfl rfl rfl rfl) ?_
 refine Tops_step rfl (OpT_assign rfl rfl rfl rfl) ?_
 refine Tops_nil (tZ [1, 2] [0] [] rfl rfl rfl rfl ?_)
 rcases onO_cases h with ⟨ho1, h⟩ | ⟨store1, ho1, h⟩
 ·cases h
 ·refine Tk_optTS (i := 0) rfl ho1 ?_
  rintro b1 vs1 rfl
  refine Tk_vs (vs_star (i := 0) rfl) ?_
  refine Tk_vs (vs_star (i := 1) rfl) ?_
  refine (show Tk _ _ ⟨[(1, some (.pointer (some ⟨b1, 0, none⟩))), (2, some (vI new1.2))], [some (cellsR b1 71 [(vsAt vs1 0), (vsAt vs1 1)]), some (rowS secS (vsAt vs1 0) store1.l), some (mapRV .i64 (fun x : Int => x) vSec (vsAt vs1 1) store1.fresh)], []⟩ from ?_)
  refine Tk_openM (i := 2) rfl ?_
  rintro mb1 he1
  rw [he1]
  refine Tk_seq (Tk_seq (Tk_region (Tops_step rfl (OpT_move rfl rfl rfl rfl) ?_)))
  refine Tops_step rfl (OpT_bin rfl rfl rfl rfl rfl (bin_neq_i (a := new1.2) (b := (0 : Int)))) ?_
  refine Tops_nil (tZ [1, 23] [0, 1, 2] [] rfl rfl rfl rfl ?_)
  rcases Bool.eq_false_or_eq_true (new1.2 != (0 : Int)) with hg1 | hg1
  ·replace h := br_t hg1 h
   refine Tk_condT (congrArg (fun b => some (Value.bool b)) hg1) ?_
   refine Tk_seq (Tk_region (Tops_step rfl (OpT_assign rfl rfl rfl rfl) ?_))
   refine Tops_nil (tZ [0] [] [] rfl rfl rfl rfl ?_)
   obtain rfl := Option.some.inj h
   exact Tk_retV rfl rfl (resA (vs := [vB false]) rfl ⟨rfl, trivial⟩) [] [] rfl rfl rfl ⟨rfl, rfl, rfl⟩
  ·replace h := br_f hg1 h
   refine Tk_condF (congrArg (fun b => some (Value.bool b)) hg1) ?_
   refine Tk_skip (Tk_seq (Tk_region (Tops_step rfl (OpT_move rfl rfl rfl rfl) ?_)))
   refine Tops_step rfl (OpT_build (v := .agg #[vU32 (0 : UInt32), vU64 (7 : UInt64), .slice none 0 0, vI (512 : Int), .slice none 0 0]) rfl rfl rfl rfl (bldV (by kernel_rfl))) ?_
   refine Tops_nilfact u8S ?_
   refine Tops_nilfact RangeS ?_
   obtain ⟨apply1, hx2, h⟩ := ob_e h
   refine Tops_exP rfl (OpT_callP [3, 4, 5, 6] (w_blk_Apply hx2) [0, 1, 2] [0, 1] rfl rfl rfl rfl rfl callee10 rfl rfl rfl rfl rfl) ?_
   rintro _ ⟨_, _, _, ⟨v2, v3, rfl, rfl, rfl⟩, rfl⟩
   refine Tops_step rfl (OpT_move rfl rfl rfl rfl) ?_
   refine Tops_step rfl (OpT_extract rfl rfl rfl rfl rfl) ?_
   refine Tops_step rfl (OpT_extract rfl rfl rfl rfl rfl) ?_
   refine Tops_step rfl (OpT_extract rfl rfl rfl rfl rfl) ?_
   refine Tops_step rfl (OpT_assign rfl rfl rfl rfl) ?_
   refine Tops_step rfl (OpT_assign rfl rfl rfl rfl) ?_
   refine Tops_step rfl (OpT_assign rfl rfl rfl rfl) ?_
   refine Tops_nil (tZ [1, 3, 4, 5] [0, 1, 2, 3] [] rfl rfl rfl rfl ?_)
   refine Tk_seq (Tk_region (Tops_step rfl (OpT_move rfl rfl rfl rfl) ?_))
   refine Tops_step rfl (OpT_build (v := .agg #[vU32 (0 : UInt32), vU64 (8 : UInt64), .slice none 0 0, vI (512 : Int), .slice none 0 0]) rfl rfl rfl rfl (bldV (by kernel_rfl))) ?_
   refine Tops_nilfact u8S ?_
   refine Tops_nilfact RangeS ?_
   obtain ⟨apply2, hx3, h⟩ := ob_e h
   refine Tops_exP rfl (OpT_callP [4, 5, 6, 3, 7] (w_blk_Apply hx3) [0, 1, 2] [0, 1] rfl rfl rfl rfl rfl callee10 rfl rfl rfl rfl rfl) ?_
   rintro _ ⟨_, _, _, ⟨v4, v5, rfl, rfl, rfl⟩, rfl⟩
   refine Tops_step rfl (OpT_move rfl rfl rfl rfl) ?_
   refine Tops_step rfl (OpT_extract rfl rfl rfl rfl rfl) ?_
   refine Tops_step rfl (OpT_extract rfl rfl rfl rfl rfl) ?_
   refine Tops_step rfl (OpT_extract rfl rfl rfl rfl rfl) ?_
   refine Tops_step rfl (OpT_assign rfl rfl rfl rfl) ?_
   refine Tops_step rfl (OpT_assign rfl rfl rfl rfl) ?_
   refine Tops_step rfl (OpT_assign rfl rfl rfl rfl) ?_
   refine Tops_nil (tZ [1, 3, 4, 5, 6, 7, 8] [0, 1, 2, 3, 4] [] rfl rfl rfl rfl ?_)
   refine Tk_seq (Tk_region (Tops_step rfl (OpT_move rfl rfl rfl rfl) ?_))
   refine Tops_step rfl (OpT_build (v := .agg #[vU32 (4 : UInt32), vU64 (0 : UInt64), .slice none 0 0, vI (0 : Int), .slice none 0 0]) rfl rfl rfl rfl (bldV (by kernel_rfl))) ?_
   refine Tops_nilfact u8S ?_
   refine Tops_nilfact RangeS ?_
   obtain ⟨apply3, hx4, h⟩ := ob_e h
   refine Tops_exP rfl (OpT_callP [5, 6, 7, 3, 4, 8] (w_blk_Apply hx4) [0, 1, 2] [0, 1] rfl rfl rfl rfl rfl callee10 rfl rfl rfl rfl rfl) ?_
   rintro _ ⟨_, _, _, ⟨v6, v7, rfl, rfl, rfl⟩, rfl⟩
   refine Tops_step rfl (OpT_move rfl rfl rfl rfl) ?_
   refine Tops_step rfl (OpT_extract rfl rfl rfl rfl rfl) ?_
   refine Tops_step rfl (OpT_extract rfl rfl rfl rfl rfl) ?_
   refine Tops_step rfl (OpT_extract rfl rfl rfl rfl rfl) ?_
   refine Tops_step rfl (OpT_assign rfl rfl rfl rfl) ?_
   refine Tops_step rfl (OpT_assign rfl rfl rfl rfl) ?_
   refine Tops_step rfl (OpT_assign rfl rfl rfl rfl) ?_
   refine Tops_nil (tZ [1, 3, 4, 5, 6, 7, 8, 10] [0, 1, 2, 3, 4] [] rfl rfl rfl rfl ?_)
   refine Tk_seq (Tk_region (Tops_step rfl (OpT_move rfl rfl rfl rfl) ?_))
   obtain ⟨hc1, h⟩ := chk_e h
   obtain ⟨z1, hz1, h⟩ := lt_e h
   refine Tops_ex rfl (OpT_makeL (OpT_makeD u8S rfl (u := (0 : UInt8)) rfl rfl rfl rfl rfl slF26 rfl hc1) hz1) fun v8 => ?_
   refine Tops_step rfl (OpT_build1 (fun z0 => [(0, vU32 (1 : UInt32)), (2, z0)]) (fun z0 => [vU32 (1 : UInt32), vU64 (0 : UInt64), z0, vI (0 : Int), .slice none 0 0]) rfl rfl rfl rfl (is_row (i := 5) rfl) (by intros; kernel_rfl)) ?_
   refine Tops_retire (i := 5) rfl ?_
   refine Tops_nilfact RangeS ?_
   obtain ⟨apply4, hx5, h⟩ := ob_e h
   refine Tops_exP rfl (OpT_callP [6, 7, 8, 3, 4, 5, 9] (w_blk_Apply hx5) [0, 1, 2] [0, 1] rfl rfl rfl rfl rfl callee10 rfl rfl rfl rfl rfl) ?_
   rintro _ ⟨_, _, _, ⟨v9, v10, rfl, rfl, rfl⟩, rfl⟩
   refine Tops_step rfl (OpT_move rfl rfl rfl rfl) ?_
   refine Tops_step rfl (OpT_extract rfl rfl rfl rfl rfl) ?_
   refine Tops_step rfl (OpT_extract rfl rfl rfl rfl rfl) ?_
   refine Tops_step rfl (OpT_extract rfl rfl rfl rfl rfl) ?_
   refine Tops_step rfl (OpT_assign rfl rfl rfl rfl) ?_
   refine Tops_step rfl (OpT_assign rfl rfl rfl rfl) ?_
   refine Tops_step rfl (OpT_assign rfl rfl rfl rfl) ?_
   refine Tops_nil (tZ [1, 3, 4, 5, 6, 7, 8, 10, 13] [0, 1, 2, 3, 4] [] rfl rfl rfl rfl ?_)
   refine Tk_seq (Tk_region (Tops_step rfl (OpT_move rfl rfl rfl rfl) ?_))
   refine Tops_step rfl (OpT_build (v := .agg #[vU32 (5 : UInt32), vU64 (0 : UInt64), .slice none 0 0, vI (0 : Int), .slice none 0 0]) rfl rfl rfl rfl (bldV (by kernel_rfl))) ?_
   refine Tops_nilfact u8S ?_
   refine Tops_nilfact RangeS ?_
   obtain ⟨apply5, hx6, h⟩ := ob_e h
   refine Tops_exP rfl (OpT_callP [5, 6, 7, 3, 4, 8] (w_blk_Apply hx6) [0, 1, 2] [0, 1] rfl rfl rfl rfl rfl callee10 rfl rfl rfl rfl rfl) ?_
   rintro _ ⟨_, _, _, ⟨v11, v12, rfl, rfl, rfl⟩, rfl⟩
   refine Tops_step rfl (OpT_move rfl rfl rfl rfl) ?_
   refine Tops_step rfl (OpT_extract rfl rfl rfl rfl rfl) ?_
   refine Tops_step rfl (OpT_extract rfl rfl rfl rfl rfl) ?_
   refine Tops_step rfl (OpT_extract rfl rfl rfl rfl rfl) ?_
   refine Tops_step rfl (OpT_assign rfl rfl rfl rfl) ?_
   refine Tops_step rfl (OpT_assign rfl rfl rfl rfl) ?_
   refine Tops_step rfl (OpT_assign rfl rfl rfl rfl) ?_
   refine Tops_nil (tZ [3, 4, 5, 6, 7, 8, 10, 13, 16] [3, 4] [] rfl rfl rfl rfl ?_)
   refine Tk_seq (Tk_region (Tops_step rfl (OpT_move rfl rfl rfl rfl) ?_))
   refine Tops_step rfl (OpT_bin rfl rfl rfl rfl rfl (bin_eql_i (a := apply1.2.2.1) (b := (0 : Int)))) ?_
   refine Tops_step rfl (OpT_move rfl rfl rfl rfl) ?_
   rcases Bool.eq_false_or_eq_true (apply1.2.2.1 == (0 : Int)) with hg2 | hg2
   ·replace h := br_t hg2 h
    refine Tops_yes rfl rfl (congrArg (fun b => some (Value.bool b)) hg2) (OpT_move rfl rfl rfl rfl) ?_
    rintro _ rfl
    refine Tops_yes rfl rfl (congrArg (fun b => some (Value.bool b)) hg2) (OpT_bin rfl rfl rfl rfl rfl (bin_eql_i (a := apply2.2.2.1) (b := (0 : Int)))) ?_
    rintro _ rfl
    refine Tops_step rfl (OpT_pickT rfl rfl rfl (congrArg (fun b => some (Value.bool b)) hg2) rfl) ?_
    refine Tops_step rfl (OpT_move rfl rfl rfl rfl) ?_
    rcases Bool.eq_false_or_eq_true (apply2.2.2.1 == (0 : Int)) with hg3 | hg3
    ·replace h := br_t hg3 h
     refine Tops_yes rfl rfl (congrArg (fun b => some (Value.bool b)) hg3) (OpT_move rfl rfl rfl rfl) ?_
     rintro _ rfl
     refine Tops_yes rfl rfl (congrArg (fun b => some (Value.bool b)) hg3) (OpT_lenO rfl rfl rfl rfl Try.underlying26 (i := 0) rfl) ?_
     rintro _ rfl
     refine Tops_yes rfl rfl (congrArg (fun b => some (Value.bool b)) hg3) (OpT_bin rfl rfl rfl rfl rfl (bin_eql_i (a := len apply1.1) (b := (512 : Int)))) ?_
     rintro _ rfl
     refine Tops_step rfl (OpT_pickT rfl rfl rfl (congrArg (fun b => some (Value.bool b)) hg3) rfl) ?_
     refine Tops_step rfl (OpT_move rfl rfl rfl rfl) ?_
     rcases Bool.eq_false_or_eq_true ((len apply1.1) == (512 : Int)) with hg4 | hg4
     ·replace h := br_t hg4 h
      refine Tops_yes rfl rfl (congrArg (fun b => some (Value.bool b)) hg4) (OpT_move rfl rfl rfl rfl) ?_
      rintro _ rfl
      refine Tops_yes rfl rfl (congrArg (fun b => some (Value.bool b)) hg4) (OpT_bin rfl rfl rfl rfl rfl (bin_eql_u8 (a := apply1.2.1) (b := (0 : UInt8)))) ?_
      rintro _ rfl
      refine Tops_step rfl (OpT_pickT rfl rfl rfl (congrArg (fun b => some (Value.bool b)) hg4) rfl) ?_
      refine Tops_step rfl (OpT_move rfl rfl rfl rfl) ?_
      rcases Bool.eq_false_or_eq_true (apply1.2.1 == (0 : UInt8)) with hg5 | hg5
      ·replace h := br_t hg5 h
       refine Tops_yes rfl rfl (congrArg (fun b => some (Value.bool b)) hg5) (OpT_move rfl rfl rfl rfl) ?_
       rintro _ rfl
       refine Tops_yes rfl rfl (congrArg (fun b => some (Value.bool b)) hg5) (OpT_lenO rfl rfl rfl rfl Try.underlying26 (i := 1) rfl) ?_
       rintro _ rfl
       refine Tops_yes rfl rfl (congrArg (fun b => some (Value.bool b)) hg5) (OpT_bin rfl rfl rfl rfl rfl (bin_eql_i (a := len apply2.1) (b := (0 : Int)))) ?_
       rintro _ rfl
       refine Tops_step rfl (OpT_pickT rfl rfl rfl (congrArg (fun b => some (Value.bool b)) hg5) rfl) ?_
       refine Tops_step rfl (OpT_move rfl rfl rfl rfl) ?_
       rcases Bool.eq_false_or_eq_true ((len apply2.1) == (0 : Int)) with hg6 | hg6
       ·replace h := br_t hg6 h
        refine Tops_yes rfl rfl (congrArg (fun b => some (Value.bool b)) hg6) (OpT_move rfl rfl rfl rfl) ?_
        rintro _ rfl
        refine Tops_yes rfl rfl (congrArg (fun b => some (Value.bool b)) hg6) (OpT_bin rfl rfl rfl rfl rfl (bin_eql_u8 (a := apply2.2.1) (b := (1 : UInt8)))) ?_
        rintro _ rfl
        refine Tops_step rfl (OpT_pickT rfl rfl rfl (congrArg (fun b => some (Value.bool b)) hg6) rfl) ?_
        refine Tops_step rfl (OpT_move rfl rfl rfl rfl) ?_
        rcases Bool.eq_false_or_eq_true (apply2.2.1 == (1 : UInt8)) with hg7 | hg7
        ·replace h := br_t hg7 h
         refine Tops_yes rfl rfl (congrArg (fun b => some (Value.bool b)) hg7) (OpT_move rfl rfl rfl rfl) ?_
         rintro _ rfl
         refine Tops_yes rfl rfl (congrArg (fun b => some (Value.bool b)) hg7) (OpT_bin rfl rfl rfl rfl rfl (bin_eql_u8 (a := apply3.2.1) (b := (0 : UInt8)))) ?_
         rintro _ rfl
         refine Tops_step rfl (OpT_pickT rfl rfl rfl (congrArg (fun b => some (Value.bool b)) hg7) rfl) ?_
         refine Tops_step rfl (OpT_move rfl rfl rfl rfl) ?_
         rcases Bool.eq_false_or_eq_true (apply3.2.1 == (0 : UInt8)) with hg8 | hg8
         ·replace h := br_t hg8 h
          refine Tops_yes rfl rfl (congrArg (fun b => some (Value.bool b)) hg8) (OpT_move rfl rfl rfl rfl) ?_
          rintro _ rfl
          refine Tops_yes rfl rfl (congrArg (fun b => some (Value.bool b)) hg8) (OpT_bin rfl rfl rfl rfl rfl (bin_eql_u8 (a := apply4.2.1) (b := (1 : UInt8)))) ?_
          rintro _ rfl
          refine Tops_step rfl (OpT_pickT rfl rfl rfl (congrArg (fun b => some (Value.bool b)) hg8) rfl) ?_
          refine Tops_step rfl (OpT_move rfl rfl rfl rfl) ?_
          rcases Bool.eq_false_or_eq_true (apply4.2.1 == (1 : UInt8)) with hg9 | hg9
          ·replace h := br_t hg9 h
           refine Tops_yes rfl rfl (congrArg (fun b => some (Value.bool b)) hg9) (OpT_move rfl rfl rfl rfl) ?_
           rintro _ rfl
           refine Tops_yes rfl rfl (congrArg (fun b => some (Value.bool b)) hg9) (OpT_bin rfl rfl rfl rfl rfl (bin_eql_u8 (a := apply5.2.1) (b := (2 : UInt8)))) ?_
           rintro _ rfl
           refine Tops_step rfl (OpT_pickT rfl rfl rfl (congrArg (fun b => some (Value.bool b)) hg9) rfl) ?_
           refine Tops_step rfl (OpT_assign rfl rfl rfl rfl) ?_
           refine Tops_nil (tZ [0] [] [] rfl rfl rfl rfl ?_)
           obtain rfl := Option.some.inj h
           exact Tk_retV rfl rfl (resA (vs := [vB (apply5.2.1 == (2 : UInt8))]) rfl ⟨rfl, trivial⟩) [] [] rfl rfl rfl ⟨rfl, rfl, rfl⟩
          ·replace h := br_f hg9 h
           refine Tops_no rfl rfl (congrArg (fun b => some (Value.bool b)) hg9) rfl rfl ?_
           refine Tops_no rfl rfl (congrArg (fun b => some (Value.bool b)) hg9) rfl rfl ?_
           refine Tops_step rfl (OpT_pickF rfl rfl rfl (congrArg (fun b => some (Value.bool b)) hg9) rfl) ?_
           refine Tops_step rfl (OpT_assign rfl rfl rfl rfl) ?_
           refine Tops_nil (tZ [0] [] [] rfl rfl rfl rfl ?_)
           obtain rfl := Option.some.inj h
           exact Tk_retV rfl rfl (resA (vs := [vB false]) rfl ⟨rfl, trivial⟩) [] [] rfl rfl rfl ⟨rfl, rfl, rfl⟩
         ·replace h := br_f hg8 h
          refine Tops_no rfl rfl (congrArg (fun b => some (Value.bool b)) hg8) rfl rfl ?_
          refine Tops_no rfl rfl (congrArg (fun b => some (Value.bool b)) hg8) rfl rfl ?_
          refine Tops_step rfl (OpT_pickF rfl rfl rfl (congrArg (fun b => some (Value.bool b)) hg8) rfl) ?_
          refine Tops_step rfl (OpT_move rfl rfl rfl rfl) ?_
          refine Tops_no rfl rfl rfl rfl rfl ?_
          refine Tops_no rfl rfl rfl rfl rfl ?_
          refine Tops_step rfl (OpT_pickF rfl rfl rfl rfl rfl) ?_
          refine Tops_step rfl (OpT_assign rfl rfl rfl rfl) ?_
          refine Tops_nil (tZ [0] [] [] rfl rfl rfl rfl ?_)
          obtain rfl := Option.some.inj h
          exact Tk_retV rfl rfl (resA (vs := [vB false]) rfl ⟨rfl, trivial⟩) [] [] rfl rfl rfl ⟨rfl, rfl, rfl⟩
        ·replace h := br_f hg7 h
         refine Tops_no rfl rfl (congrArg (fun b => some (Value.bool b)) hg7) rfl rfl ?_
         refine Tops_no rfl rfl (congrArg (fun b => some (Value.bool b)) hg7) rfl rfl ?_
         refine Tops_step rfl (OpT_pickF rfl rfl rfl (congrArg (fun b => some (Value.bool b)) hg7) rfl) ?_
         refine Tops_step rfl (OpT_move rfl rfl rfl rfl) ?_
         refine Tops_no rfl rfl rfl rfl rfl ?_
         refine Tops_no rfl rfl rfl rfl rfl ?_
         refine Tops_step rfl (OpT_pickF rfl rfl rfl rfl rfl) ?_
         refine Tops_step rfl (OpT_move rfl rfl rfl rfl) ?_
         refine Tops_no rfl rfl rfl rfl rfl ?_
         refine Tops_no rfl rfl rfl rfl rfl ?_
         refine Tops_step rfl (OpT_pickF rfl rfl rfl rfl rfl) ?_
         refine Tops_step rfl (OpT_assign rfl rfl rfl rfl) ?_
         refine Tops_nil (tZ [0] [] [] rfl rfl rfl rfl ?_)
         obtain rfl := Option.some.inj h
         exact Tk_retV rfl rfl (resA (vs := [vB false]) rfl ⟨rfl, trivial⟩) [] [] rfl rfl rfl ⟨rfl, rfl, rfl⟩
       ·replace h := br_f hg6 h
        refine Tops_no rfl rfl (congrArg (fun b => some (Value.bool b)) hg6) rfl rfl ?_
        refine Tops_no rfl rfl (congrArg (fun b => some (Value.bool b)) hg6) rfl rfl ?_
        refine Tops_step rfl (OpT_pickF rfl rfl rfl (congrArg (fun b => some (Value.bool b)) hg6) rfl) ?_
        refine Tops_step rfl (OpT_move rfl rfl rfl rfl) ?_
        refine Tops_no rfl rfl rfl rfl rfl ?_
        refine Tops_no rfl rfl rfl rfl rfl ?_
        refine Tops_step rfl (OpT_pickF rfl rfl rfl rfl rfl) ?_
        refine Tops_step rfl (OpT_move rfl rfl rfl rfl) ?_
        refine Tops_no rfl rfl rfl rfl rfl ?_
        refine Tops_no rfl rfl rfl rfl rfl ?_
        refine Tops_step rfl (OpT_pickF rfl rfl rfl rfl rfl) ?_
        refine Tops_step rfl (OpT_move rfl rfl rfl rfl) ?_
        refine Tops_no rfl rfl rfl rfl rfl ?_
        refine Tops_no rfl rfl rfl rfl rfl ?_
        refine Tops_step rfl (OpT_pickF rfl rfl rfl rfl rfl) ?_
        refine Tops_step rfl (OpT_assign rfl rfl rfl rfl) ?_
        refine Tops_nil (tZ [0] [] [] rfl rfl rfl rfl ?_)
        obtain rfl := Option.some.inj h
        exact Tk_retV rfl rfl (resA (vs := [vB false]) rfl ⟨rfl, trivial⟩) [] [] rfl rfl rfl ⟨rfl, rfl, rfl⟩
      ·replace h := br_f hg5 h
       refine Tops_no rfl rfl (congrArg (fun b => some (Value.bool b)) hg5) rfl rfl ?_
       refine Tops_no rfl rfl (congrArg (fun b => some (Value.bool b)) hg5) rfl rfl ?_
       refine Tops_no rfl rfl (congrArg (fun b => some (Value.bool b)) hg5) rfl rfl ?_
       refine Tops_step rfl (OpT_pickF rfl rfl rfl (congrArg (fun b => some (Value.bool b)) hg5) rfl) ?_
       refine Tops_step rfl (OpT_move rfl rfl rfl rfl) ?_
       refine Tops_no rfl rfl rfl rfl rfl ?_
       refine Tops_no rfl rfl rfl rfl rfl ?_
       refine Tops_step rfl (OpT_pickF rfl rfl rfl rfl rfl) ?_
       refine Tops_step rfl (OpT_move rfl rfl rfl rfl) ?_
       refine Tops_no rfl rfl rfl rfl rfl ?_
       refine Tops_no rfl rfl rfl rfl rfl ?_
       refine Tops_step rfl (OpT_pickF rfl rfl rfl rfl rfl) ?_
       refine Tops_step rfl (OpT_move rfl rfl rfl rfl) ?_
       refine Tops_no rfl rfl rfl rfl rfl ?_
       refine Tops_no rfl rfl rfl rfl rfl ?_
       refine Tops_step rfl (OpT_pickF rfl rfl rfl rfl rfl) ?_
       refine Tops_step rfl (OpT_move rfl rfl rfl rfl) ?_
       refine Tops_no rfl rfl rfl rfl rfl ?_
       refine Tops_no rfl rfl rfl rfl rfl ?_
       refine Tops_step rfl (OpT_pickF rfl rfl rfl rfl rfl) ?_
       refine Tops_step rfl (OpT_assign rfl rfl rfl rfl) ?_
       refine Tops_nil (tZ [0] [] [] rfl rfl rfl rfl ?_)
       obtain rfl := Option.some.inj h
       exact Tk_retV rfl rfl (resA (vs := [vB false]) rfl ⟨rfl, trivial⟩) [] [] rfl rfl rfl ⟨rfl, rfl, rfl⟩
     ·replace h := br_f hg4 h
      refine Tops_no rfl rfl (congrArg (fun b => some (Value.bool b)) hg4) rfl rfl ?_
      refine Tops_no rfl rfl (congrArg (fun b => some (Value.bool b)) hg4) rfl rfl ?_
      refine Tops_step rfl (OpT_pickF rfl rfl rfl (congrArg (fun b => some (Value.bool b)) hg4) rfl) ?_
      refine Tops_step rfl (OpT_move rfl rfl rfl rfl) ?_
      refine Tops_no rfl rfl rfl rfl rfl ?_
      refine Tops_no rfl rfl rfl rfl rfl ?_
      refine Tops_no rfl rfl rfl rfl rfl ?_
      refine Tops_step rfl (OpT_pickF rfl rfl rfl rfl rfl) ?_
      refine Tops_step rfl (OpT_move rfl rfl rfl rfl) ?_
      refine Tops_no rfl rfl rfl rfl rfl ?_
      refine Tops_no rfl rfl rfl rfl rfl ?_
      refine Tops_step rfl (OpT_pickF rfl rfl rfl rfl rfl) ?_
      refine Tops_step rfl (OpT_move rfl rfl rfl rfl) ?_
      refine Tops_no rfl rfl rfl rfl rfl ?_
      refine Tops_no rfl rfl rfl rfl rfl ?_
      refine Tops_step rfl (OpT_pickF rfl rfl rfl rfl rfl) ?_
      refine Tops_step rfl (OpT_move rfl rfl rfl rfl) ?_
      refine Tops_no rfl rfl rfl rfl rfl ?_
      refine Tops_no rfl rfl rfl rfl rfl ?_
      refine Tops_step rfl (OpT_pickF rfl rfl rfl rfl rfl) ?_
      refine Tops_step rfl (OpT_move rfl rfl rfl rfl) ?_
      refine Tops_no rfl rfl rfl rfl rfl ?_
      refine Tops_no rfl rfl rfl rfl rfl ?_
      refine Tops_step rfl (OpT_pickF rfl rfl rfl rfl rfl) ?_
      refine Tops_step rfl (OpT_assign rfl rfl rfl rfl) ?_
      refine Tops_nil (tZ [0] [] [] rfl rfl rfl rfl ?_)
      obtain rfl := Option.some.inj h
      exact Tk_retV rfl rfl (resA (vs := [vB false]) rfl ⟨rfl, trivial⟩) [] [] rfl rfl rfl ⟨rfl, rfl, rfl⟩
    ·replace h := br_f hg3 h
     refine Tops_no rfl rfl (congrArg (fun b => some (Value.bool b)) hg3) rfl rfl ?_
     refine Tops_no rfl rfl (congrArg (fun b => some (Value.bool b)) hg3) rfl rfl ?_
     refine Tops_no rfl rfl (congrArg (fun b => some (Value.bool b)) hg3) rfl rfl ?_
     refine Tops_step rfl (OpT_pickF rfl rfl rfl (congrArg (fun b => some (Value.bool b)) hg3) rfl) ?_
     refine Tops_step rfl (OpT_move rfl rfl rfl rfl) ?_
     refine Tops_no rfl rfl rfl rfl rfl ?_
     refine Tops_no rfl rfl rfl rfl rfl ?_
     refine Tops_step rfl (OpT_pickF rfl rfl rfl rfl rfl) ?_
     refine Tops_step rfl (OpT_move rfl rfl rfl rfl) ?_
     refine Tops_no rfl rfl rfl rfl rfl ?_
     refine Tops_no rfl rfl rfl rfl rfl ?_
     refine Tops_no rfl rfl rfl rfl rfl ?_
     refine Tops_step rfl (OpT_pickF rfl rfl rfl rfl rfl) ?_
     refine Tops_step rfl (OpT_move rfl rfl rfl rfl) ?_
     refine Tops_no rfl rfl rfl rfl rfl ?_
     refine Tops_no rfl rfl rfl rfl rfl ?_
     refine Tops_step rfl (OpT_pickF rfl rfl rfl rfl rfl) ?_
     refine Tops_step rfl (OpT_move rfl rfl rfl rfl) ?_
     refine Tops_no rfl rfl rfl rfl rfl ?_
     refine Tops_no rfl rfl rfl rfl rfl ?_
     refine Tops_step rfl (OpT_pickF rfl rfl rfl rfl rfl) ?_
     refine Tops_step rfl (OpT_move rfl rfl rfl rfl) ?_
     refine Tops_no rfl rfl rfl rfl rfl ?_
     refine Tops_no rfl rfl rfl rfl rfl ?_
     refine Tops_step rfl (OpT_pickF rfl rfl rfl rfl rfl) ?_
     refine Tops_step rfl (OpT_move rfl rfl rfl rfl) ?_
     refine Tops_no rfl rfl rfl rfl rfl ?_
     refine Tops_no rfl rfl rfl rfl rfl ?_
     refine Tops_step rfl (OpT_pickF rfl rfl rfl rfl rfl) ?_
     refine Tops_step rfl (OpT_assign rfl rfl rfl rfl) ?_
     refine Tops_nil (tZ [0] [] [] rfl rfl rfl rfl ?_)
     obtain rfl := Option.some.inj h
     exact Tk_retV rfl rfl (resA (vs := [vB false]) rfl ⟨rfl, trivial⟩) [] [] rfl rfl rfl ⟨rfl, rfl, rfl⟩
   ·replace h := br_f hg2 h
    refine Tops_no rfl rfl (congrArg (fun b => some (Value.bool b)) hg2) rfl rfl ?_
    refine Tops_no rfl rfl (congrArg (fun b => some (Value.bool b)) hg2) rfl rfl ?_
    refine Tops_step rfl (OpT_pickF rfl rfl rfl (congrArg (fun b => some (Value.bool b)) hg2) rfl) ?_
    refine Tops_step rfl (OpT_move rfl rfl rfl rfl) ?_
    refine Tops_no rfl rfl rfl rfl rfl ?_
    refine Tops_no rfl rfl rfl rfl rfl ?_
    refine Tops_no rfl rfl rfl rfl rfl ?_
    refine Tops_step rfl (OpT_pickF rfl rfl rfl rfl rfl) ?_
    refine Tops_step rfl (OpT_move rfl rfl rfl rfl) ?_
    refine Tops_no rfl rfl rfl rfl rfl ?_
    refine Tops_no rfl rfl rfl rfl rfl ?_
    refine Tops_step rfl (OpT_pickF rfl rfl rfl rfl rfl) ?_
    refine Tops_step rfl (OpT_move rfl rfl rfl rfl) ?_
    refine Tops_no rfl rfl rfl rfl rfl ?_
    refine Tops_no rfl rfl rfl rfl rfl ?_
    refine Tops_no rfl rfl rfl rfl rfl ?_
    refine Tops_step rfl (OpT_pickF rfl rfl rfl rfl rfl) ?_
    refine Tops_step rfl (OpT_move rfl rfl rfl rfl) ?_
    refine Tops_no rfl rfl rfl rfl rfl ?_
    refine Tops_no rfl rfl rfl rfl rfl ?_
    refine Tops_step rfl (OpT_pickF rfl rfl rfl rfl rfl) ?_
    refine Tops_step rfl (OpT_move rfl rfl rfl rfl) ?_
    refine Tops_no rfl rfl rfl rfl rfl ?_
    refine Tops_no rfl rfl rfl rfl rfl ?_
    refine Tops_step rfl (OpT_pickF rfl rfl rfl rfl rfl) ?_
    refine Tops_step rfl (OpT_move rfl rfl rfl rfl) ?_
    refine Tops_no rfl rfl rfl rfl rfl ?_
    refine Tops_no rfl rfl rfl rfl rfl ?_
    refine Tops_step rfl (OpT_pickF rfl rfl rfl rfl rfl) ?_
    refine Tops_step rfl (OpT_move rfl rfl rfl rfl) ?_
    refine Tops_no rfl rfl rfl rfl rfl ?_
    refine Tops_no rfl rfl rfl rfl rfl ?_
    refine Tops_step rfl (OpT_pickF rfl rfl rfl rfl rfl) ?_
    refine Tops_step rfl (OpT_assign rfl rfl rfl rfl) ?_
    refine Tops_nil (tZ [0] [] [] rfl rfl rfl rfl ?_)
    obtain rfl := Option.some.inj h
    exact Tk_retV rfl rfl (resA (vs := [vB false]) rfl ⟨rfl, trivial⟩) [] [] rfl rfl rfl ⟨rfl, rfl, rfl⟩

set_option maxRecDepth 100000 in
set_option maxHeartbeats 4000000 in
theorem w_kit_LightReq {rp0 : Req} {most : Int} {vrp01 : Value} {vrp02 : Value} {r : Bool} (h : kit_LightReq rp0 most = some r) :
  Ctr Try.prog 12 #[.agg #[vU32 rp0.Type_, vU64 rp0.Sector, vrp01, vI rp0.Room, vrp02], vI most] [] [Fact.sl u8S vrp01 rp0.Data, Fact.sl RangeS vrp02 rp0.Ranges]
   (fun rv own shr => rv = vB r ∧ own = [] ∧ shr = []) := by
 unfold kit_LightReq at h
 refine Ctr.mk (args := [.agg #[vU32 rp0.Type_, vU64 rp0.Sector, vrp01, vI rp0.Room, vrp02], vI most]) Try.func12 rfl rfl (fun R0 w0 B => ?_)
 refine Tk_seq (Tk_region (Tops_ex rfl (OpT_box rfl rfl rfl rfl) fun b1 => ?_))
 refine Tops_step rfl (OpT_assign rfl rfl rfl rfl) ?_
 refine Tops_nil (tZ [1, 2] [0] [0, 1] rfl rfl rfl rfl ?_)
 refine Tk_seq (Tk_region (Tops_step rfl (OpT_fieldC rfl rfl rfl rfl fldF35x2) ?_))
 refine Tops_step rfl (OpT_loadC rfl rfl rfl rfl tyF26 (i := 0) rfl rfl) ?_
 refine Tops_step rfl (OpT_lenS rfl rfl rfl rfl Try.underlying26 (i := 0) rfl) ?_
 refine Tops_step rfl (OpT_move rfl rfl rfl rfl) ?_
 refine Tops_step rfl (OpT_bin rfl rfl rfl rfl rfl (bin_leq_i (a := len rp0.Data) (b := most))) ?_
 refine Tops_step rfl (OpT_move rfl rfl rfl rfl) ?_
 rcases Bool.eq_false_or_eq_true (decide ((len rp0.Data) ≤ most)) with hg1 | hg1
 ·replace h := br_t hg1 h
  refine Tops_yes rfl rfl (congrArg (fun b => some (Value.bool b)) hg1) (OpT_fieldC rfl rfl rfl rfl fldF35x4) ?_
  rintro _ rfl
  refine Tops_yes rfl rfl (congrArg (fun b => some (Value.bool b)) hg1) (OpT_loadC rfl rfl rfl rfl tyF33 (i := 0) rfl rfl) ?_
  rintro _ rfl
  refine Tops_yes rfl rfl (congrArg (fun b => some (Value.bool b)) hg1) (OpT_lenS rfl rfl rfl rfl Try.underlying33 (i := 1) rfl) ?_
  rintro _ rfl
  refine Tops_yes rfl rfl (congrArg (fun b => some (Value.bool b)) hg1) (OpT_bin rfl rfl rfl rfl rfl (bin_leq_i (a := len rp0.Ranges) (b := (40 : Int)))) ?_
  rintro _ rfl
  refine Tops_step rfl (OpT_pickT rfl rfl rfl (congrArg (fun b => some (Value.bool b)) hg1) rfl) ?_
  refine Tops_step rfl (OpT_move rfl rfl rfl rfl) ?_
  rcases Bool.eq_false_or_eq_true (decide ((len rp0.Ranges) ≤ (40 : Int))) with hg2 | hg2
  ·replace h := br_t hg2 h
   refine Tops_yes rfl rfl (congrArg (fun b => some (Value.bool b)) hg2) (OpT_fieldC rfl rfl rfl rfl fldF35x3) ?_
   rintro _ rfl
   refine Tops_yes rfl rfl (congrArg (fun b => some (Value.bool b)) hg2) (OpT_loadC rfl rfl rfl rfl tyF3 (i := 0) rfl rfl) ?_
   rintro _ rfl
   refine Tops_yes rfl rfl (congrArg (fun b => some (Value.bool b)) hg2) (OpT_move rfl rfl rfl rfl) ?_
   rintro _ rfl
   refine Tops_yes rfl rfl (congrArg (fun b => some (Value.bool b)) hg2) (OpT_bin rfl rfl rfl rfl rfl (bin_leq_i (a := rp0.Room) (b := most))) ?_
   rintro _ rfl
   refine Tops_step rfl (OpT_pickT rfl rfl rfl (congrArg (fun b => some (Value.bool b)) hg2) rfl) ?_
   refine Tops_step rfl (OpT_assign rfl rfl rfl rfl) ?_
   refine Tops_nil (tZ [4] [] [] rfl rfl rfl rfl ?_)
   obtain rfl := Option.some.inj h
   exact Tk_retV rfl rfl (resA (vs := [vB (decide (rp0.Room ≤ most))]) rfl ⟨rfl, trivial⟩) [] [] rfl rfl rfl ⟨rfl, rfl, rfl⟩
  ·replace h := br_f hg2 h
   refine Tops_no rfl rfl (congrArg (fun b => some (Value.bool b)) hg2) rfl rfl ?_
   refine Tops_no rfl rfl (congrArg (fun b => some (Value.bool b)) hg2) rfl rfl ?_
   refine Tops_no rfl rfl (congrArg (fun b => some (Value.bool b)) hg2) rfl rfl ?_
   refine Tops_no rfl rfl (congrArg (fun b => some (Value.bool b)) hg2) rfl rfl ?_
   refine Tops_step rfl (OpT_pickF rfl rfl rfl (congrArg (fun b => some (Value.bool b)) hg2) rfl) ?_
   refine Tops_step rfl (OpT_assign rfl rfl rfl rfl) ?_
   refine Tops_nil (tZ [4] [] [] rfl rfl rfl rfl ?_)
   obtain rfl := Option.some.inj h
   exact Tk_retV rfl rfl (resA (vs := [vB false]) rfl ⟨rfl, trivial⟩) [] [] rfl rfl rfl ⟨rfl, rfl, rfl⟩
 ·replace h := br_f hg1 h
  refine Tops_no rfl rfl (congrArg (fun b => some (Value.bool b)) hg1) rfl rfl ?_
  refine Tops_no rfl rfl (congrArg (fun b => some (Value.bool b)) hg1) rfl rfl ?_
  refine Tops_no rfl rfl (congrArg (fun b => some (Value.bool b)) hg1) rfl rfl ?_
  refine Tops_no rfl rfl (congrArg (fun b => some (Value.bool b)) hg1) rfl rfl ?_
  refine Tops_step rfl (OpT_pickF rfl rfl rfl (congrArg (fun b => some (Value.bool b)) hg1) rfl) ?_
  refine Tops_step rfl (OpT_move rfl rfl rfl rfl) ?_
  refine Tops_no rfl rfl rfl rfl rfl ?_
  refine Tops_no rfl rfl rfl rfl rfl ?_
  refine Tops_no rfl rfl rfl rfl rfl ?_
  refine Tops_no rfl rfl rfl rfl rfl ?_
  refine Tops_step rfl (OpT_pickF rfl rfl rfl rfl rfl) ?_
  refine Tops_step rfl (OpT_assign rfl rfl rfl rfl) ?_
  refine Tops_nil (tZ [4] [] [] rfl rfl rfl rfl ?_)
  obtain rfl := Option.some.inj h
  exact Tk_retV rfl rfl (resA (vs := [vB false]) rfl ⟨rfl, trivial⟩) [] [] rfl rfl rfl ⟨rfl, rfl, rfl⟩

set_option maxRecDepth 100000 in
set_option maxHeartbeats 4000000 in
theorem w_kit_Own {b : List UInt8} {vb1 : Value} {r : (List UInt8)} (h : kit_Own b = some r) :
  Ctr Try.prog 14 #[vb1] [] [Fact.sl u8S vb1 b]
   (fun rv own shr => ∃ (w1 : Value), rv = w1 ∧ own = [(rowS u8S w1 r)] ∧ shr = []) := by
 unfold kit_Own at h
 refine Ctr.mk (args := [vb1]) Try.func14 rfl rfl (fun R0 w0 B => ?_)
 refine Tk_seq (Tk_region (Tops_step rfl (OpT_assign rfl rfl rfl rfl) ?_))
 refine Tops_nil (tZ [0] [] [0] rfl rfl rfl rfl ?_)
 refine Tk_seq (Tk_region (Tops_ex rfl (OpT_buildSlice (S := u8S) (xs := ([] : List UInt8)) (css := []) (cs := []) (e := 5) rfl rfl rfl rfl (bldF slF26 (by decide) (by kernel_rfl)) rfl rfl rfl rfl (rel_plainD (S := u8S) (xs := ([] : List UInt8)) (css := []) rfl rfl)) fun v1 => ?_))
 refine Tops_step rfl (OpT_move rfl rfl rfl rfl) ?_
 obtain ⟨hc1, h⟩ := chk_e h
 refine Tops_ex rfl (OpT_append rfl rfl rfl rfl rfl slF26 (i := 0) (j := 0) rfl rfl hc1) fun v2 => ?_
 refine Tops_step rfl (OpT_assign rfl rfl rfl rfl) ?_
 refine Tops_nil (tZ [2] [0] [] rfl rfl rfl rfl ?_)
 obtain rfl := Option.some.inj h
 exact Tk_retV rfl rfl (resA (vs := [v2]) rfl ⟨rfl, trivial⟩) [0] [] rfl rfl rfl ⟨v2, rfl, rfl, rfl⟩

set_option maxRecDepth 100000 in
set_option maxHeartbeats 4000000 in
theorem w_sectors_Of {b : List UInt8} {vb1 : Value} {r : ((Option sectors_Store) × Int)} (h : sectors_Of b = some r) :
  Ctr Try.prog 15 #[vb1] [] [Fact.sl u8S vb1 b]
   (fun rv own shr => ∃ (w1 : Value), rv = .tuple #[w1, vI r.2] ∧ own = [(optT tsectors_Store w1 r.1)] ∧ shr = []) := by
 unfold sectors_Of at h
 refine Ctr.mk (args := [vb1]) Try.func15 rfl rfl (fun R0 w0 B => ?_)
 refine Tk_seq (Tk_region (Tops_step rfl (OpT_assign rfl rfl rfl rfl) ?_))
 refine Tops_step rfl (OpT_assign rfl rfl rfl rfl) ?_
 refine Tops_nil (tZ [0] [] [0] rfl rfl rfl rfl ?_)
 refine Tk_seq (Tk_seq (Tk_region (Tops_step rfl (OpT_move rfl rfl rfl rfl) ?_)))
 refine Tops_step rfl (OpT_lenS rfl rfl rfl rfl Try.underlying26 (i := 0) rfl) ?_
 refine Tops_step rfl (OpT_bin rfl rfl rfl rfl rfl (bin_rem_i (a := len b) (b := (512 : Int)) rfl)) ?_
 refine Tops_step rfl (OpT_bin rfl rfl rfl rfl rfl (bin_neq_i (a := remi (len b) (512 : Int)) (b := (0 : Int)))) ?_
 refine Tops_nil (tZ [0, 10] [] [0] rfl rfl rfl rfl ?_)
 rcases Bool.eq_false_or_eq_true ((remi (len b) (512 : Int)) != (0 : Int)) with hg1 | hg1
 ·replace h := br_t hg1 h
  refine Tk_condT (congrArg (fun b => some (Value.bool b)) hg1) ?_
  refine Tk_seq (Tk_region (Tops_step rfl (OpT_assign rfl rfl rfl rfl) ?_))
  refine Tops_step rfl (OpT_assign rfl rfl rfl rfl) ?_
  refine Tops_nil (tZ [2, 3] [] [] rfl rfl rfl rfl ?_)
  refine Tk_nilT tsectors_Store ?_
  obtain rfl := Option.some.inj h
  exact Tk_retV rfl rfl (resA (vs := [.pointer none, vI (2 : Int)]) rfl ⟨rfl, rfl, trivial⟩) [0] [] rfl rfl rfl ⟨(.pointer none), rfl, rfl, rfl⟩
 ·replace h := br_f hg1 h
  refine Tk_condF (congrArg (fun b => some (Value.bool b)) hg1) ?_
  refine Tk_skip (Tk_seq (Tk_region (Tops_step rfl (OpT_move rfl rfl rfl rfl) ?_)))
  refine Tops_step rfl (OpT_lenS rfl rfl rfl rfl Try.underlying26 (i := 0) rfl) ?_
  refine Tops_step rfl (OpT_bin rfl rfl rfl rfl rfl (bin_quo_i (a := len b) (b := (512 : Int)) rfl)) ?_
  obtain ⟨new1, hx1, h⟩ := ob_e h
  refine Tops_exP rfl (OpT_call (w_sectors_New hx1) [] [] rfl rfl rfl rfl rfl callee7 rfl rfl rfl rfl) ?_
  rintro _ ⟨_, _, _, ⟨v1, rfl, rfl, rfl⟩, rfl⟩
  refine Tops_step rfl (OpT_move rfl rfl rfl rfl) ?_
  refine Tops_step rfl (OpT_extract rfl rfl rfl rfl rfl) ?_
  refine Tops_step rfl (OpT_extract rfl rfl rfl rfl rfl) ?_
  refine Tops_step rfl (OpT_assign rfl rfl rfl rfl) ?_
  refine Tops_step rfl (OpT_assign rfl rfl rfl rfl) ?_
  refine Tops_nil (tZ [0, 4, 5] [0] [0] rfl rfl rfl rfl ?_)
  rcases onO_cases h with ⟨ho1, h⟩ | ⟨store1, ho1, h⟩
  ·refine Tk_optTN (i := 0) rfl ho1 ?_
   rintro rfl
   refine Tk_seq (Tk_seq (Tk_region (Tops_step rfl (OpT_move rfl rfl rfl rfl) ?_)))
   refine Tops_step rfl (OpT_bin rfl rfl rfl rfl rfl (bin_neq_i (a := new1.2) (b := (0 : Int)))) ?_
   refine Tops_nil (tZ [0, 4, 5, 19] [] [0] rfl rfl rfl rfl ?_)
   obtain ⟨hg2, h⟩ := chk_e h
   refine Tk_condT (congrArg (fun b => some (Value.bool b)) hg2) ?_
   refine Tk_seq (Tk_region (Tops_step rfl (OpT_move rfl rfl rfl rfl) ?_))
   refine Tops_step rfl (OpT_assign rfl rfl rfl rfl) ?_
   refine Tops_step rfl (OpT_assign rfl rfl rfl rfl) ?_
   refine Tops_nil (tZ [2, 3] [] [] rfl rfl rfl rfl ?_)
   refine Tk_nilT tsectors_Store ?_
   obtain rfl := Option.some.inj h
   exact Tk_retV rfl rfl (resA (vs := [.pointer none, vI new1.2]) rfl ⟨rfl, rfl, trivial⟩) [0] [] rfl rfl rfl ⟨(.pointer none), rfl, rfl, rfl⟩
  ·refine Tk_optTS (i := 0) rfl ho1 ?_
   rintro b1 vs1 rfl
   refine Tk_vs (vs_star (i := 0) rfl) ?_
   refine Tk_vs (vs_star (i := 1) rfl) ?_
   refine (show Tk _ _ ⟨[(0, some (vb1)), (4, some (.pointer (some ⟨b1, 0, none⟩))), (5, some (vI new1.2))], [some (cellsR b1 71 [(vsAt vs1 0), (vsAt vs1 1)]), some (rowS secS (vsAt vs1 0) store1.l), some (mapRV .i64 (fun x : Int => x) vSec (vsAt vs1 1) store1.fresh)], [Fact.sl u8S vb1 b]⟩ from ?_)
   refine Tk_openM (i := 2) rfl ?_
   rintro mb1 he1
   rw [he1]
   refine Tk_seq (Tk_seq (Tk_region (Tops_step rfl (OpT_move rfl rfl rfl rfl) ?_)))
   refine Tops_step rfl (OpT_bin rfl rfl rfl rfl rfl (bin_neq_i (a := new1.2) (b := (0 : Int)))) ?_
   refine Tops_nil (tZ [0, 4, 5, 19] [0, 1, 2] [0] rfl rfl rfl rfl ?_)
   rcases Bool.eq_false_or_eq_true (new1.2 != (0 : Int)) with hg3 | hg3
   ·replace h := br_t hg3 h
    refine Tk_condT (congrArg (fun b => some (Value.bool b)) hg3) ?_
    refine Tk_seq (Tk_region (Tops_step rfl (OpT_move rfl rfl rfl rfl) ?_))
    refine Tops_step rfl (OpT_assign rfl rfl rfl rfl) ?_
    refine Tops_step rfl (OpT_assign rfl rfl rfl rfl) ?_
    refine Tops_nil (tZ [2, 3] [] [] rfl rfl rfl rfl ?_)
    refine Tk_nilT tsectors_Store ?_
    obtain rfl := Option.some.inj h
    exact Tk_retV rfl rfl (resA (vs := [.pointer none, vI new1.2]) rfl ⟨rfl, rfl, trivial⟩) [0] [] rfl rfl rfl ⟨(.pointer none), rfl, rfl, rfl⟩
   ·replace h := br_f hg3 h
    refine Tk_condF (congrArg (fun b => some (Value.bool b)) hg3) ?_
    refine Tk_skip (Tk_seq (Tk_seq (Tk_region (Tops_step rfl (OpT_move rfl rfl rfl rfl) ?_))))
    refine Tops_step rfl (OpT_nilCheckP rfl rfl rfl rfl) ?_
    refine Tops_step rfl (OpT_fieldC rfl rfl rfl rfl fldF71x0) ?_
    refine Tops_step rfl (OpT_loadC rfl rfl rfl rfl tyF68 (i := 0) rfl rfl) ?_
    refine Tops_step rfl (OpT_lenO rfl rfl rfl rfl Try.underlying68 (i := 1) rfl) ?_
    refine Tops_step rfl (OpT_move rfl rfl rfl rfl) ?_
    refine Tops_nil (tZ [0, 4, 25, 26] [0, 1, 2] [0] rfl rfl rfl rfl ?_)
    refine Tk_block (Tk_loopS (σ := (List Sec) × (List (Int × Sec)) × Int × Value) [0, 4, 25, 26] [0, 1, 2] [0] (fun s => ⟨[(0, some (vb1)), (4, some (.pointer (some ⟨b1, 0, none⟩))), (25, some (vI (len store1.l))), (26, some (vI s.2.2.1))], [some (cellsR b1 71 [s.2.2.2, .map (some mb1)]), some (rowS secS s.2.2.2 s.1), some (mapR mb1 .i64 (fun x : Int => x) vSec s.2.1)], [Fact.sl u8S vb1 b]⟩) (fun nf1 s => sectors_OfL1 b store1 nf1 s.1 s.2.1 s.2.2.1 = some r) fuel (store1.l, store1.fresh, (0 : Int), (vsAt vs1 0)) h rfl rfl rfl rfl rfl (fun s h => by cases h) ?_)
    rintro nf1 ⟨l1, map1, x1, v2⟩ h
    replace h : sectors_OfL1B b store1 (sectors_OfL1 b store1 nf1) l1 map1 x1 = some r := h
    unfold sectors_OfL1B at h
    refine Tk_seq (Tk_region (Tops_step rfl (OpT_bin rfl rfl rfl rfl rfl (bin_lss_i (a := x1) (b := len store1.l))) ?_))
    refine Tops_nil (Tk_seq ?_)
    rcases Bool.eq_false_or_eq_true (decide (x1 < (len store1.l))) with hg4 | hg4
    ·replace h := br_t hg4 h
     refine Tk_condT (congrArg (fun b => some (Value.bool b)) hg4) ?_
     refine Tk_skip (Tk_seq (Tk_block (Tk_seq (Tk_region (Tops_step rfl (OpT_move rfl rfl rfl rfl) ?_)))))
     refine Tops_step rfl (OpT_assign rfl rfl rfl rfl) ?_
     refine Tops_nil (tZ [0, 4, 25, 26, 6] [0, 1, 2] [0] rfl rfl rfl rfl ?_)
     refine Tk_drawT (by kernel_rfl) ?_
     refine TA_tb [0, 1, 3, 7, 0, 31, 63, 0, 0, 256, 896, 2047] (by kernel_rfl) fun htb => ?_
     obtain ⟨s1, hx2, h⟩ := ob_e h
     obtain ⟨hc1, h⟩ := chk_e h
     refine TA_seg (lo := 0) (hi := 11) htb rfl rfl (by kernel_rfl) (fun c L a w => ∃ (v3 : Value), Sat c ⟨[(0, some (vb1)), (4, some (.pointer (some ⟨b1, 0, none⟩))), (25, some (vI (len store1.l))), (26, some (vI x1)), (6, some (vI x1)), (29, bif L 0 then some (.pointer (some ⟨b1, 0, none⟩)) else none), (30, bif L 1 then some (.pointer (some ⟨b1, 0, none⟩)) else none), (31, bif L 2 then some (.pointer (some ⟨b1, 0, none⟩)) else none), (32, bif L 3 then some (v2) else none), (33, bif L 4 then some (vI x1) else none), (34, bif L 5 then some (rowPtr v2 (Int.toNat x1 * 512)) else none), (35, bif L 6 then some (rowSl v2 (Int.toNat x1 * 512) 512) else none), (36, bif L 7 then some (vb1) else none), (37, bif L 8 then some (vI x1) else none), (38, bif L 9 then some (vI (wi (x1 * (512 : Int)))) else none), (39, bif L 10 then some (v3) else none)], [(some (cellsR b1 71 [v2, .map (some mb1)]) : Option Res), (some (rowS secS v2 l1) : Option Res), (some (mapR mb1 .i64 (fun x : Int => x) vSec map1) : Option Res)], [Fact.sl u8S vb1 b, (bif L 10 then Fact.sl u8S v3 (sub b (wi (x1 * (512 : Int))) (len b)) else Fact.tt)]⟩ a w) [([], [1, 2, 3, 5, 6]), ([0], [2, 3, 5, 6]), ([0, 1], [3, 5, 6]), ([0, 1, 2], [5, 6]), ([], [5, 6]), ([0, 1, 2, 3, 4], [6]), ([0, 1, 2, 3, 4, 5], []), ([], [10]), ([], [9, 10]), ([8], [10]), ([7, 8, 9], [])] rfl (by kernel_rfl) ?_ (steps_cons ?_ (steps_cons ?_ (steps_cons ?_ (steps_cons ?_ (steps_cons ?_ (steps_cons ?_ (steps_cons ?_ (steps_cons ?_ (steps_cons ?_ (steps_cons ?_ (steps_cons ?_ (steps_nil)))))))))))) ?_
     ·intro a w hs
      exact ⟨undef, hs.startF [29, 30, 31, 32, 33, 34, 35, 36, 37, 38, 39] [0, 1, 2] [0, 1] rfl rfl rfl rfl⟩
     ·intro L a w hv K Q hK
      obtain ⟨v3, hs⟩ := hv
      refine wpOp_go rfl rfl hs (OpT_move rfl rfl rfl rfl) ?_
      rintro _ rfl a' w' hs'
      exact hK a' w' ⟨v3, hs'.putF (i := 5) rfl [0, 1, 2] [0, 1] rfl rfl rfl rfl⟩
     ·intro L a w hv K Q hK
      obtain ⟨v3, hs⟩ := hv
      refine wpOp_go rfl rfl hs (OpT_nilCheckP rfl rfl rfl rfl) ?_
      rintro _ rfl a' w' hs'
      exact hK a' w' ⟨v3, hs'.putF (i := 6) rfl [0, 1, 2] [0, 1] rfl rfl rfl rfl⟩
     ·intro L a w hv K Q hK
      obtain ⟨v3, hs⟩ := hv
      refine wpOp_go rfl rfl hs (OpT_fieldC rfl rfl rfl rfl fldF71x0) ?_
      rintro _ rfl a' w' hs'
      exact hK a' w' ⟨v3, hs'.putF (i := 7) rfl [0, 1, 2] [0, 1] rfl rfl rfl rfl⟩
     ·intro L a w hv K Q hK
      obtain ⟨v3, hs⟩ := hv
      refine wpOp_go rfl rfl hs (OpT_loadC rfl rfl rfl rfl tyF68 (i := 0) rfl rfl) ?_
      rintro _ rfl a' w' hs'
      exact hK a' w' ⟨v3, hs'.putF (i := 8) rfl [0, 1, 2] [0, 1] rfl rfl rfl rfl⟩
     ·intro L a w hv K Q hK
      obtain ⟨v3, hs⟩ := hv
      refine wpOp_go rfl rfl hs (OpT_move rfl rfl rfl rfl) ?_
      rintro _ rfl a' w' hs'
      exact hK a' w' ⟨v3, hs'.putF (i := 9) rfl [0, 1, 2] [0, 1] rfl rfl rfl rfl⟩
     ·intro L a w hv K Q hK
      obtain ⟨v3, hs⟩ := hv
      refine wpOp_go rfl rfl hs (OpT_idxO rfl rfl rfl rfl rfl slF68 (i := 1) rfl hx2) ?_
      rintro _ rfl a' w' hs'
      exact hK a' w' ⟨v3, hs'.putF (i := 10) rfl [0, 1, 2] [0, 1] rfl rfl rfl rfl⟩
     ·intro L a w hv K Q hK
      obtain ⟨v3, hs⟩ := hv
      refine wpOp_go rfl rfl hs (OpT_sliceElt rfl rfl rfl rfl arrF83 (i := 1) rfl hx2) ?_
      rintro _ rfl a' w' hs'
      exact hK a' w' ⟨v3, hs'.putF (i := 11) rfl [0, 1, 2] [0, 1] rfl rfl rfl rfl⟩
     ·intro L a w hv K Q hK
      obtain ⟨v3, hs⟩ := hv
      refine wpOp_go rfl rfl hs (OpT_move rfl rfl rfl rfl) ?_
      rintro _ rfl a' w' hs'
      exact hK a' w' ⟨v3, hs'.putF (i := 12) rfl [0, 1, 2] [0, 1] rfl rfl rfl rfl⟩
     ·intro L a w hv K Q hK
      obtain ⟨v3, hs⟩ := hv
      refine wpOp_go rfl rfl hs (OpT_move rfl rfl rfl rfl) ?_
      rintro _ rfl a' w' hs'
      exact hK a' w' ⟨v3, hs'.putF (i := 13) rfl [0, 1, 2] [0, 1] rfl rfl rfl rfl⟩
     ·intro L a w hv K Q hK
      obtain ⟨v3, hs⟩ := hv
      refine wpOp_go rfl rfl hs (OpT_bin rfl rfl rfl rfl rfl (bin_mul_i (a := x1) (b := (512 : Int)))) ?_
      rintro _ rfl a' w' hs'
      exact hK a' w' ⟨v3, hs'.putF (i := 14) rfl [0, 1, 2] [0, 1] rfl rfl rfl rfl⟩
     ·intro L a w hv K Q hK
      obtain ⟨v3, hs⟩ := hv
      refine wpOp_go rfl rfl hs (OpT_sliceL (l := wi (x1 * (512 : Int))) rfl rfl rfl rfl rfl slF26 (i := 0) rfl hc1) ?_
      rintro _ ⟨v3', rfl⟩ a' w' hs'
      exact hK a' w' ⟨v3', hs'.putF (i := 15) rfl [0, 1, 2] [0, 2] rfl rfl rfl rfl⟩
     ·intro L a w hL hv
      rw [allTrue hL] at hv
      obtain ⟨v3, hs⟩ := hv
      refine gZ hs [0, 4, 25, 26, 35, 39] [0, 1, 2] [0, 1] rfl rfl rfl rfl ?_
      clear hs hL
      refine TA_step htb (by kernel_rfl) rfl rfl (OpT_copyE rfl rfl rfl rfl rfl slF26 (i := 1) (j := 1) rfl hx2 rfl) ?_
      refine TA_end rfl ?_
      refine tZ [0, 4, 25, 26] [0, 1, 2] [0] rfl rfl rfl rfl ?_
      refine Tk_blk (Tk_region (Tops_step rfl (OpT_bin rfl rfl rfl rfl rfl (bin_add_i (a := x1) (b := (1 : Int)))) ?_))
      refine Tops_step rfl (OpT_move rfl rfl rfl rfl) ?_
      refine Tops_nil (tZ [0, 4, 25, 26] [0, 1, 2] [0] rfl rfl rfl rfl ?_)
      exact Tk_backS (l1.set (Int.toNat x1) (Sec.put s1 (sub b (wi (x1 * (512 : Int))) (len b))), map1, wi (x1 + (1 : Int)), v2) h [0, 4, 25, 26] [0, 1, 2] [0] rfl rfl rfl rfl rfl
    ·replace h := br_f hg4 h
     refine Tk_condF (congrArg (fun b => some (Value.bool b)) hg4) ?_
     refine Tk_exit _ rfl ?_
     refine Tk_seq (Tk_region (Tops_step rfl (OpT_move rfl rfl rfl rfl) ?_))
     refine Tops_step rfl (OpT_assign rfl rfl rfl rfl) ?_
     refine Tops_step rfl (OpT_assign rfl rfl rfl rfl) ?_
     refine Tops_nil (tZ [2, 3] [0, 1, 2] [] rfl rfl rfl rfl ?_)
     refine Tk_vs (vs_mapV (i := 2) rfl) ?_
     refine Tk_vs (vs_join (i := 1) (j := 2) rfl rfl rfl) ?_
     refine Tk_vs (vs_join (i := 0) (j := 1) rfl rfl rfl) ?_
     refine Tk_vs (vs_optT tsectors_Store (sectors_Store.mk l1 map1) b1 [v2, .map (some mb1)] (i := 0) rfl (by kernel_rfl)) ?_
     obtain rfl := Option.some.inj h
     exact Tk_retV rfl rfl (resA (vs := [.pointer (some ⟨b1, 0, none⟩), vI (0 : Int)]) rfl ⟨rfl, rfl, trivial⟩) [0] [] rfl rfl rfl ⟨(.pointer (some ⟨b1, 0, none⟩)), rfl, rfl, rfl⟩

theorem ws_kit_Own {b : List UInt8} {vb1 : Value} {r : (List UInt8)} (h : kit_Own b = some r) :
  Ctr Try.prog 14 #[vb1] [] [Fact.sl u8S vb1 b]
   (fun rv own shr => ∃ (w1 : Value), rv = w1 ∧ own = [] ∧ shr = [Fact.sl u8S w1 r]) :=
 Ctr.sh (w_kit_Own h) (by rintro w1 _ _ ⟨_, rfl, rfl, rfl⟩; exact ⟨[], _, _, _, _, rfl, w1, rfl, rfl, rfl⟩)

set_option maxRecDepth 100000 in
set_option maxHeartbeats 4000000 in
theorem w_kit_Req {rp0 : Req} {vrp01 : Value} {vrp02 : Value} {r : Req} (h : kit_Req rp0 = some r) :
  Ctr Try.prog 16 #[.agg #[vU32 rp0.Type_, vU64 rp0.Sector, vrp01, vI rp0.Room, vrp02]] [] [Fact.sl u8S vrp01 rp0.Data, Fact.sl RangeS vrp02 rp0.Ranges]
   (fun rv own shr => ∃ (w1 : Value), ∃ (w2 : Value), rv = .agg #[vU32 r.Type_, vU64 r.Sector, w1, vI r.Room, w2] ∧ own = [(rowS RangeS w2 r.Ranges)] ∧ shr = [Fact.sl u8S w1 r.Data]) := by
 unfold kit_Req at h
 refine Ctr.mk (args := [.agg #[vU32 rp0.Type_, vU64 rp0.Sector, vrp01, vI rp0.Room, vrp02]]) Try.func16 rfl rfl (fun R0 w0 B => ?_)
 refine Tk_seq (Tk_region (Tops_ex rfl (OpT_box rfl rfl rfl rfl) fun b1 => ?_))
 refine Tops_ex rfl (OpT_alloc rfl rfl rfl tyZ35) fun b2 => ?_
 refine Tops_nil (tZ [1, 2] [0, 1] [0, 1] rfl rfl rfl rfl ?_)
 refine Tk_seq (Tk_drawT (by kernel_rfl) ?_)
 refine TA_tb [0, 1, 3, 0, 0, 16, 63, 55, 255, 511, 1023] (by kernel_rfl) fun htb => ?_
 obtain ⟨own1, hx1, h⟩ := ob_e h
 obtain ⟨hc1, h⟩ := chk_e h
 refine TA_seg (lo := 0) (hi := 8) htb rfl rfl (by kernel_rfl) (fun c L a w => ∃ (v1 : Value), ∃ (v2 : Value), ∃ (v3 : Value), Sat c ⟨[(1, some (.pointer (some ⟨b1, 0, none⟩))), (2, some (.pointer (some ⟨b2, 0, none⟩))), (3, bif L 0 then some (.pointer (some ⟨b1, 2, none⟩)) else none), (4, bif L 1 then some (vrp01) else none), (5, bif L 2 then some (v1) else none), (6, bif L 3 then some (v2) else none), (7, bif L 4 then some (.pointer (some ⟨b1, 4, none⟩)) else none), (8, bif L 5 then some (vrp02) else none), (9, bif L 6 then some (v3) else none), (10, bif L 7 then some (.pointer (some ⟨b1, 2, none⟩)) else none)], [(some (cellsR b1 35 [vU32 rp0.Type_, vU64 rp0.Sector, vrp01, vI rp0.Room, vrp02]) : Option Res), (some (cellsR b2 35 [vU32 (0 : UInt32), vU64 (0 : UInt64), .slice none 0 0, vI (0 : Int), .slice none 0 0]) : Option Res), (bif L 6 then some (rowS RangeS v3 rp0.Ranges) else bif L 3 then some (rowS RangeS v2 ([] : List Range)) else none : Option Res)], [Fact.sl u8S vrp01 rp0.Data, Fact.sl RangeS vrp02 rp0.Ranges, (bif L 2 then Fact.sl u8S v1 own1 else Fact.tt)]⟩ a w) [([], [1, 2, 6, 7]), ([0], [2, 6, 7]), ([0, 1], [6, 7]), ([], [6]), ([], [5, 6, 7]), ([4], [6, 7]), ([0, 1, 2, 3, 4, 5], []), ([0, 1, 2, 4, 5], [])] rfl (by kernel_rfl) ?_ (steps_cons ?_ (steps_cons ?_ (steps_cons ?_ (steps_cons ?_ (steps_cons ?_ (steps_cons ?_ (steps_cons ?_ (steps_cons ?_ (steps_nil))))))))) ?_
 ·intro a w hs
  exact ⟨undef, undef, undef, hs.startF [3, 4, 5, 6, 7, 8, 9, 10] [0, 1, 2] [0, 1, 2] rfl rfl rfl rfl⟩
 ·intro L a w hv K Q hK
  obtain ⟨v1, v2, v3, hs⟩ := hv
  refine wpOp_go rfl rfl hs (OpT_fieldC rfl rfl rfl rfl fldF35x2) ?_
  rintro _ rfl a' w' hs'
  exact hK a' w' ⟨v1, v2, v3, hs'.putF (i := 2) rfl [0, 1, 2] [0, 1, 2] rfl rfl rfl rfl⟩
 ·intro L a w hv K Q hK
  obtain ⟨v1, v2, v3, hs⟩ := hv
  refine wpOp_go rfl rfl hs (OpT_loadC rfl rfl rfl rfl tyF26 (i := 0) rfl rfl) ?_
  rintro _ rfl a' w' hs'
  exact hK a' w' ⟨v1, v2, v3, hs'.putF (i := 3) rfl [0, 1, 2] [0, 1, 2] rfl rfl rfl rfl⟩
 ·intro L a w hv K Q hK
  obtain ⟨v1, v2, v3, hs⟩ := hv
  refine wpOp_go rfl rfl hs (OpT_call (ws_kit_Own hx1) [] [0] rfl rfl rfl rfl rfl callee14 rfl rfl rfl rfl) ?_
  rintro _ ⟨v1', _, _, ⟨_, rfl, rfl, rfl⟩, rfl⟩ a' w' hs'
  exact hK a' w' ⟨v1', v2, v3, hs'.putF (i := 4) rfl [0, 1, 2] [0, 1, 3] rfl rfl rfl rfl⟩
 ·intro L a w hv K Q hK
  obtain ⟨v1, v2, v3, hs⟩ := hv
  refine wpOp_go rfl rfl hs (OpT_buildSlice (S := RangeS) (xs := ([] : List Range)) (css := []) (cs := []) (e := 32) rfl rfl rfl rfl (bldF slF33 (by decide) (by kernel_rfl)) rfl rfl rfl rfl (rel_plainD (S := RangeS) (xs := ([] : List Range)) (css := []) rfl rfl)) ?_
  rintro _ ⟨v2', rfl⟩ a' w' hs'
  exact hK a' w' ⟨v1, v2', v3, hs'.putF (i := 5) rfl [0, 1, 3] [0, 1, 2] rfl rfl rfl rfl⟩
 ·intro L a w hv K Q hK
  obtain ⟨v1, v2, v3, hs⟩ := hv
  refine wpOp_go rfl rfl hs (OpT_fieldC rfl rfl rfl rfl fldF35x4) ?_
  rintro _ rfl a' w' hs'
  exact hK a' w' ⟨v1, v2, v3, hs'.putF (i := 6) rfl [0, 1, 2] [0, 1, 2] rfl rfl rfl rfl⟩
 ·intro L a w hv K Q hK
  obtain ⟨v1, v2, v3, hs⟩ := hv
  refine wpOp_go rfl rfl hs (OpT_loadC rfl rfl rfl rfl tyF33 (i := 0) rfl rfl) ?_
  rintro _ rfl a' w' hs'
  exact hK a' w' ⟨v1, v2, v3, hs'.putF (i := 7) rfl [0, 1, 2] [0, 1, 2] rfl rfl rfl rfl⟩
 ·intro L a w hv K Q hK
  obtain ⟨v1, v2, v3, hs⟩ := hv
  refine wpOp_go rfl rfl hs (OpT_append rfl rfl rfl rfl rfl slF33 (i := 2) (j := 1) rfl rfl hc1) ?_
  rintro _ ⟨v3', rfl⟩ a' w' hs'
  exact hK a' w' ⟨v1, v2, v3', hs'.putF (i := 8) rfl [0, 1, 2] [0, 1, 2] rfl rfl rfl rfl⟩
 ·intro L a w hv K Q hK
  obtain ⟨v1, v2, v3, hs⟩ := hv
  refine wpOp_go rfl rfl hs (OpT_fieldC rfl rfl rfl rfl fldF35x2) ?_
  rintro _ rfl a' w' hs'
  exact hK a' w' ⟨v1, v2, v3, hs'.putF (i := 9) rfl [0, 1, 2] [0, 1, 2] rfl rfl rfl rfl⟩
 ·intro L a w hL hv
  rw [allTrue hL] at hv
  obtain ⟨v1, v2, v3, hs⟩ := hv
  refine gZ hs [1, 2, 5, 9, 10] [0, 1, 2] [0, 1, 2] rfl rfl rfl rfl ?_
  clear hs hL
  refine TA_step htb (by kernel_rfl) rfl rfl (OpT_storeV (cs' := [vU32 rp0.Type_, vU64 rp0.Sector, v1, vI rp0.Room, vrp02]) rfl rfl rfl rfl tyF26 (i := 0) rfl (is_sl (i := 2) rfl) rfl rfl) ?_
  refine TA_step htb (by kernel_rfl) rfl rfl (OpT_fieldC rfl rfl rfl rfl fldF35x4) ?_
  refine TA_step htb (by kernel_rfl) rfl rfl (OpT_storeV (cs' := [vU32 rp0.Type_, vU64 rp0.Sector, v1, vI rp0.Room, v3]) rfl rfl rfl rfl tyF33 (i := 0) rfl (is_row (i := 2) rfl) rfl rfl) ?_
  refine TA_end rfl ?_
  refine tZ [1, 2] [0, 1, 2] [2] rfl rfl rfl rfl ?_
  refine Tk_seq (Tk_region (Tops_step rfl (OpT_loadCA (vs := [vU32 rp0.Type_, vU64 rp0.Sector, v1, vI rp0.Room, v3]) rfl rfl rfl rfl tyF35 (i := 0) rfl rfl rfl) ?_))
  refine Tops_step rfl (OpT_storeA2 (fun z0 z1 => [vU32 rp0.Type_, vU64 rp0.Sector, z0, vI rp0.Room, z1]) (cs' := [vU32 rp0.Type_, vU64 rp0.Sector, v1, vI rp0.Room, v3]) rfl rfl rfl rfl tyF35 (i := 1) rfl (is_sl (i := 0) rfl) (is_row (i := 2) rfl) (fun _ _ _ _ _ _ => rfl) rfl rfl rfl) ?_
  refine Tops_nil (tZ [2] [1, 2] [0] rfl rfl rfl rfl ?_)
  obtain rfl := Option.some.inj h
  exact Tk_retV rfl rfl (resA (vs := [.agg #[vU32 rp0.Type_, vU64 rp0.Sector, v1, vI rp0.Room, v3]]) rfl ⟨⟨_, 0, _, _, _, rfl, rfl, .inl ⟨tyF35, rfl, rfl⟩⟩, trivial⟩) [1] [0] rfl rfl rfl ⟨v1, v3, rfl, rfl, rfl⟩

set_option maxRecDepth 100000 in
set_option maxHeartbeats 4000000 in
theorem w_sectors_Store_Count {sp0 : sectors_Store} {b_sp0 : Nat} {vsp01 : Value} {mb_sp0 : Nat} {r : Int} (h : sectors_Store_Count sp0 = some r) :
  Ctr Try.prog 29 #[.pointer (some ⟨b_sp0, 0, none⟩)] [(cellsR b_sp0 71 [vsp01, .map (some mb_sp0)]), (rowS secS vsp01 sp0.l), (mapR mb_sp0 .i64 (fun x : Int => x) vSec sp0.fresh)] []
   (fun rv own shr => rv = vI r ∧ own = [(cellsR b_sp0 71 [vsp01, .map (some mb_sp0)]), (rowS secS vsp01 sp0.l), (mapR mb_sp0 .i64 (fun x : Int => x) vSec sp0.fresh)] ∧ shr = []) := by
 unfold sectors_Store_Count at h
 refine Ctr.mk (args := [.pointer (some ⟨b_sp0, 0, none⟩)]) Try.func29 rfl rfl (fun R0 w0 B => ?_)
 refine Tk_seq (Tk_region (Tops_step rfl (OpT_assign rfl rfl rfl rfl) ?_))
 refine Tops_nil (tZ [0] [0, 1, 2] [] rfl rfl rfl rfl ?_)
 refine Tk_seq (Tk_seq (Tk_region (Tops_step rfl (OpT_move rfl rfl rfl rfl) ?_)))
 refine Tops_step rfl (OpT_ptrNil rfl rfl rfl (.inl rfl) rfl rfl ptrF22) ?_
 refine Tops_nil (tZ [0, 4] [0, 1, 2] [] rfl rfl rfl rfl ?_)
 refine Tk_condF rfl ?_
 refine Tk_skip (Tk_seq (Tk_region (Tops_step rfl (OpT_move rfl rfl rfl rfl) ?_)))
 refine Tops_step rfl (OpT_nilCheckP rfl rfl rfl rfl) ?_
 refine Tops_step rfl (OpT_fieldC rfl rfl rfl rfl fldF71x0) ?_
 refine Tops_step rfl (OpT_loadC rfl rfl rfl rfl tyF68 (i := 0) rfl rfl) ?_
 refine Tops_step rfl (OpT_lenO rfl rfl rfl rfl Try.underlying68 (i := 1) rfl) ?_
 refine Tops_step rfl (OpT_assign rfl rfl rfl rfl) ?_
 refine Tops_nil (tZ [2] [0, 1, 2] [] rfl rfl rfl rfl ?_)
 obtain rfl := Option.some.inj h
 exact Tk_retV rfl rfl (resA (vs := [vI (len sp0.l)]) rfl ⟨rfl, trivial⟩) [0, 1, 2] [] rfl rfl rfl ⟨rfl, rfl, rfl⟩

set_option maxRecDepth 100000 in
set_option maxHeartbeats 4000000 in
theorem w_sectors_Store_Image {sp0 : sectors_Store} {b_sp0 : Nat} {vsp01 : Value} {mb_sp0 : Nat} {r : ((List UInt8) × sectors_Store)} (h : sectors_Store_Image sp0 = some r) :
  Ctr Try.prog 17 #[.pointer (some ⟨b_sp0, 0, none⟩)] [(cellsR b_sp0 71 [vsp01, .map (some mb_sp0)]), (rowS secS vsp01 sp0.l), (mapR mb_sp0 .i64 (fun x : Int => x) vSec sp0.fresh)] []
   (fun rv own shr => ∃ (w1 : Value), ∃ (w2 : Value), rv = w1 ∧ own = [(cellsR b_sp0 71 [w2, .map (some mb_sp0)]), (rowS secS w2 r.2.l), (mapR mb_sp0 .i64 (fun x : Int => x) vSec r.2.fresh), (rowS u8S w1 r.1)] ∧ shr = []) := by
 unfold sectors_Store_Image at h
 refine Ctr.mk (args := [.pointer (some ⟨b_sp0, 0, none⟩)]) Try.func17 rfl rfl (fun R0 w0 B => ?_)
 refine Tk_seq (Tk_region (Tops_step rfl (OpT_assign rfl rfl rfl rfl) ?_))
 refine Tops_nil (tZ [0] [0, 1, 2] [] rfl rfl rfl rfl ?_)
 refine Tk_seq (Tk_region (Tops_step rfl (OpT_move rfl rfl rfl rfl) ?_))
 refine Tops_step rfl (OpT_move rfl rfl rfl rfl) ?_
 obtain ⟨count1, hx1, h⟩ := ob_e h
 refine Tops_exP rfl (OpT_callP [3, 4, 5] (w_sectors_Store_Count hx1) [0, 1, 2] [] rfl rfl rfl rfl rfl callee29 rfl rfl rfl rfl rfl) ?_
 rintro _ ⟨_, _, _, ⟨rfl, rfl, rfl⟩, rfl⟩
 obtain ⟨read1, hx2, h⟩ := ob_e h
 refine Tops_exP rfl (OpT_callP [3, 4, 5, 6] (w_sectors_Store_Read hx2) [0, 1, 2] [] rfl rfl rfl rfl rfl callee28 rfl rfl rfl rfl rfl) ?_
 rintro _ ⟨_, _, _, ⟨v1, v2, rfl, rfl, rfl⟩, rfl⟩
 refine Tops_step rfl (OpT_move rfl rfl rfl rfl) ?_
 refine Tops_step rfl (OpT_extract rfl rfl rfl rfl rfl) ?_
 refine Tops_step rfl (OpT_extract rfl rfl rfl rfl rfl) ?_
 refine Tops_step rfl (OpT_assign rfl rfl rfl rfl) ?_
 refine Tops_step rfl (OpT_assign rfl rfl rfl rfl) ?_
 refine Tops_nil (tZ [3] [0, 1, 2, 3] [] rfl rfl rfl rfl ?_)
 refine Tk_seq (Tk_region (Tops_step rfl (OpT_move rfl rfl rfl rfl) ?_))
 refine Tops_step rfl (OpT_assign rfl rfl rfl rfl) ?_
 refine Tops_nil (tZ [2] [0, 1, 2, 3] [] rfl rfl rfl rfl ?_)
 obtain rfl := Option.some.inj h
 exact Tk_retV rfl rfl (resA (vs := [v1]) rfl ⟨rfl, trivial⟩) [0, 1, 2, 3] [] rfl rfl rfl ⟨v1, v2, rfl, rfl, rfl⟩

end Go.Proofs.Ytjfdamiilndgeaa
