/- The law DescBack is walked: it returns what its plain words say. No condition. -/
import Derived.Test.YtamdpkddehhocaaWa1
namespace Go.Proofs.Ytamdpkddehhocaa

set_option maxRecDepth 100000 in
set_option maxHeartbeats 4000000 in
theorem w_law_DescBack {ap0 : Desc} {b : Desc} {pp2 : Packed} {qp3 : Packed} {u : Used} {vp5 : Event} {l : List Desc} {vl1 : Value}  (h : law_DescBack ap0 b pp2 qp3 u vp5 l = some true) :
    Ctr Try.prog 6 #[.agg #[vU64 ap0.Addr, vU32 ap0.Len, vU16 ap0.Flags, vU16 ap0.Next], .agg #[vU64 b.Addr, vU32 b.Len, vU16 b.Flags, vU16 b.Next], .agg #[vU64 pp2.Addr, vU32 pp2.Len, vU16 pp2.ID, vU16 pp2.Flags], .agg #[vU64 qp3.Addr, vU32 qp3.Len, vU16 qp3.ID, vU16 qp3.Flags], .agg #[vU32 u.ID, vU32 u.Len], .agg #[vU16 vp5.Off, vU16 vp5.Flags], vl1] [] [Fact.sl DescS vl1 l]
      (fun rv own shr => rv = .bool true ∧ own = [] ∧ shr = []) := by
  unfold law_DescBack at h
  refine Ctr.mk (args := [.agg #[vU64 ap0.Addr, vU32 ap0.Len, vU16 ap0.Flags, vU16 ap0.Next], .agg #[vU64 b.Addr, vU32 b.Len, vU16 b.Flags, vU16 b.Next], .agg #[vU64 pp2.Addr, vU32 pp2.Len, vU16 pp2.ID, vU16 pp2.Flags], .agg #[vU64 qp3.Addr, vU32 qp3.Len, vU16 qp3.ID, vU16 qp3.Flags], .agg #[vU32 u.ID, vU32 u.Len], .agg #[vU16 vp5.Off, vU16 vp5.Flags], vl1]) Try.func6 rfl rfl (fun R0 w0 B => ?_)
  refine Tk_seq ?_
  refine Tk_region ?_
  refine Tops_ex rfl (OpT_box rfl rfl rfl rfl) fun b1 => ?_
  refine Tops_ex rfl (OpT_box rfl rfl rfl rfl) fun b2 => ?_
  refine Tops_ex rfl (OpT_box rfl rfl rfl rfl) fun b3 => ?_
  refine Tops_ex rfl (OpT_box rfl rfl rfl rfl) fun b4 => ?_
  refine Tops_ex rfl (OpT_box rfl rfl rfl rfl) fun b5 => ?_
  refine Tops_ex rfl (OpT_box rfl rfl rfl rfl) fun b6 => ?_
  refine Tops_step rfl (OpT_assign rfl rfl rfl rfl) ?_
  refine Tops_nil ?_
  refine Tk_wkS (fr' := [(6, some (vl1)), (7, some (.pointer (some ⟨b1, 0, none⟩))), (8, some (.pointer (some ⟨b2, 0, none⟩))), (9, some (.pointer (some ⟨b3, 0, none⟩))), (10, some (.pointer (some ⟨b4, 0, none⟩))), (11, some (.pointer (some ⟨b5, 0, none⟩))), (12, some (.pointer (some ⟨b6, 0, none⟩)))]) (own' := [some (cellsR b1 29 [vU64 ap0.Addr, vU32 ap0.Len, vU16 ap0.Flags, vU16 ap0.Next]), some (cellsR b2 29 [vU64 b.Addr, vU32 b.Len, vU16 b.Flags, vU16 b.Next]), some (cellsR b3 31 [vU64 pp2.Addr, vU32 pp2.Len, vU16 pp2.ID, vU16 pp2.Flags]), some (cellsR b4 31 [vU64 qp3.Addr, vU32 qp3.Len, vU16 qp3.ID, vU16 qp3.Flags]), some (cellsR b5 49 [vU32 u.ID, vU32 u.Len]), some (cellsR b6 52 [vU16 vp5.Off, vU16 vp5.Flags])]) (shr' := [Fact.sl DescS vl1 l]) [6, 7, 8, 9, 10, 11, 12] [0, 1, 2, 3, 4, 5] [0] rfl rfl rfl rfl ?_
  refine Tk_seq ?_
  refine Tk_seq ?_
  refine Tk_region ?_
  obtain ⟨lives1, hx1, h⟩ := ob_e h
  refine Tops_exP rfl (OpT_call (w_law_lives hx1) [] [] rfl rfl rfl rfl rfl callee8 rfl rfl rfl rfl) ?_
  rintro _ ⟨_, _, _, ⟨rfl, rfl, rfl⟩, rfl⟩
  refine Tops_step rfl (OpT_not rfl rfl rfl rfl) ?_
  refine Tops_nil ?_
  refine Tk_wkS (fr' := [(6, some (vl1)), (7, some (.pointer (some ⟨b1, 0, none⟩))), (8, some (.pointer (some ⟨b2, 0, none⟩))), (9, some (.pointer (some ⟨b3, 0, none⟩))), (10, some (.pointer (some ⟨b4, 0, none⟩))), (11, some (.pointer (some ⟨b5, 0, none⟩))), (12, some (.pointer (some ⟨b6, 0, none⟩))), (22, some (vB (!lives1)))]) (own' := [some (cellsR b1 29 [vU64 ap0.Addr, vU32 ap0.Len, vU16 ap0.Flags, vU16 ap0.Next]), some (cellsR b2 29 [vU64 b.Addr, vU32 b.Len, vU16 b.Flags, vU16 b.Next]), some (cellsR b3 31 [vU64 pp2.Addr, vU32 pp2.Len, vU16 pp2.ID, vU16 pp2.Flags]), some (cellsR b4 31 [vU64 qp3.Addr, vU32 qp3.Len, vU16 qp3.ID, vU16 qp3.Flags]), some (cellsR b5 49 [vU32 u.ID, vU32 u.Len]), some (cellsR b6 52 [vU16 vp5.Off, vU16 vp5.Flags])]) (shr' := [Fact.sl DescS vl1 l]) [6, 7, 8, 9, 10, 11, 12, 22] [0, 1, 2, 3, 4, 5] [0] rfl rfl rfl rfl ?_
  obtain ⟨hg1, h⟩ := chk_e h
  replace hg1 := not_t hg1
  refine Tk_condF (congrArg (fun b => some (Value.bool b)) hg1) ?_
  refine Tk_skip ?_
  refine Tk_seq ?_
  refine Tk_seq ?_
  refine Tk_region ?_
  refine Tops_step rfl (OpT_move rfl rfl rfl rfl) ?_
  refine Tops_step rfl (OpT_lenS rfl rfl rfl rfl Try.underlying32 (i := 0) rfl) ?_
  refine Tops_step rfl (OpT_bin rfl rfl rfl rfl rfl (bin_gtr_i (a := len l) (b := (300 : Int)))) ?_
  refine Tops_nil ?_
  refine Tk_wkS (fr' := [(6, some (vl1)), (7, some (.pointer (some ⟨b1, 0, none⟩))), (8, some (.pointer (some ⟨b2, 0, none⟩))), (9, some (.pointer (some ⟨b3, 0, none⟩))), (10, some (.pointer (some ⟨b4, 0, none⟩))), (11, some (.pointer (some ⟨b5, 0, none⟩))), (12, some (.pointer (some ⟨b6, 0, none⟩))), (25, some (vB (decide ((len l) > (300 : Int)))))]) (own' := [some (cellsR b1 29 [vU64 ap0.Addr, vU32 ap0.Len, vU16 ap0.Flags, vU16 ap0.Next]), some (cellsR b2 29 [vU64 b.Addr, vU32 b.Len, vU16 b.Flags, vU16 b.Next]), some (cellsR b3 31 [vU64 pp2.Addr, vU32 pp2.Len, vU16 pp2.ID, vU16 pp2.Flags]), some (cellsR b4 31 [vU64 qp3.Addr, vU32 qp3.Len, vU16 qp3.ID, vU16 qp3.Flags]), some (cellsR b5 49 [vU32 u.ID, vU32 u.Len]), some (cellsR b6 52 [vU16 vp5.Off, vU16 vp5.Flags])]) (shr' := [Fact.sl DescS vl1 l]) [6, 7, 8, 9, 10, 11, 12, 25] [0, 1, 2, 3, 4, 5] [0] rfl rfl rfl rfl ?_
  rcases Bool.eq_false_or_eq_true (decide ((len l) > (300 : Int))) with hg2 | hg2
  · replace h := br_t hg2 h
    refine Tk_condT (congrArg (fun b => some (Value.bool b)) hg2) ?_
    refine Tk_seq ?_
    refine Tk_region ?_
    refine Tops_step rfl (OpT_assign rfl rfl rfl rfl) ?_
    refine Tops_nil ?_
    refine Tk_wkS (fr' := [(14, some (vB true))]) (own' := []) (shr' := []) [14] [] [] rfl rfl rfl rfl ?_
    exact Tk_retV rfl (resA (vs := [.bool true]) rfl ⟨rfl, trivial⟩) [] [] rfl rfl rfl ⟨rfl, rfl, rfl⟩
  · replace h := br_f hg2 h
    refine Tk_condF (congrArg (fun b => some (Value.bool b)) hg2) ?_
    refine Tk_skip ?_
    refine Tk_seq ?_
    refine Tk_region ?_
    refine Tops_step rfl (OpT_loadCA (vs := [vU64 ap0.Addr, vU32 ap0.Len, vU16 ap0.Flags, vU16 ap0.Next]) rfl rfl rfl rfl tyF29 (i := 0) rfl rfl rfl) ?_
    obtain ⟨bytes1, hx2, h⟩ := ob_e h
    refine Tops_exP rfl (OpT_call (w_desc_Bytes hx2) [] [] rfl rfl rfl rfl rfl callee13 rfl rfl rfl rfl) ?_
    rintro _ ⟨v1, _, _, ⟨_, rfl, rfl, rfl⟩, rfl⟩
    refine Tops_retire (i := 6) rfl ?_
    obtain ⟨read1, hx3, h⟩ := ob_e h
    refine Tops_exP rfl (OpT_call (w_desc_Read hx3) [] [1] rfl rfl rfl rfl rfl callee15 rfl rfl rfl rfl) ?_
    rintro _ ⟨_, _, _, ⟨rfl, rfl, rfl⟩, rfl⟩
    refine Tops_step rfl (OpT_move rfl rfl rfl rfl) ?_
    refine Tops_step rfl (OpT_extract rfl rfl rfl rfl rfl) ?_
    refine Tops_step rfl (OpT_extract rfl rfl rfl rfl rfl) ?_
    refine Tops_ex rfl (OpT_alloc rfl rfl rfl tyZ29) fun b7 => ?_
    refine Tops_step rfl (OpT_storeC (cs' := [vU64 read1.1.Addr, vU32 read1.1.Len, vU16 read1.1.Flags, vU16 read1.1.Next]) rfl rfl rfl rfl tyF29 (i := 7) rfl rfl rfl (one_of rfl) rfl) ?_
    refine Tops_step rfl (OpT_assign rfl rfl rfl rfl) ?_
    refine Tops_nil ?_
    refine Tk_wkS (fr' := [(6, some (vl1)), (7, some (.pointer (some ⟨b1, 0, none⟩))), (8, some (.pointer (some ⟨b2, 0, none⟩))), (9, some (.pointer (some ⟨b3, 0, none⟩))), (10, some (.pointer (some ⟨b4, 0, none⟩))), (11, some (.pointer (some ⟨b5, 0, none⟩))), (12, some (.pointer (some ⟨b6, 0, none⟩))), (15, some (.pointer (some ⟨b7, 0, none⟩))), (16, some (vI read1.2))]) (own' := [some (cellsR b1 29 [vU64 ap0.Addr, vU32 ap0.Len, vU16 ap0.Flags, vU16 ap0.Next]), some (cellsR b2 29 [vU64 b.Addr, vU32 b.Len, vU16 b.Flags, vU16 b.Next]), some (cellsR b3 31 [vU64 pp2.Addr, vU32 pp2.Len, vU16 pp2.ID, vU16 pp2.Flags]), some (cellsR b4 31 [vU64 qp3.Addr, vU32 qp3.Len, vU16 qp3.ID, vU16 qp3.Flags]), some (cellsR b5 49 [vU32 u.ID, vU32 u.Len]), some (cellsR b6 52 [vU16 vp5.Off, vU16 vp5.Flags]), some (cellsR b7 29 [vU64 read1.1.Addr, vU32 read1.1.Len, vU16 read1.1.Flags, vU16 read1.1.Next])]) (shr' := [Fact.sl DescS vl1 l]) [6, 7, 8, 9, 10, 11, 12, 15, 16] [0, 1, 2, 3, 4, 5, 7] [0] rfl rfl rfl rfl ?_
    refine Tk_seq ?_
    refine Tk_region ?_
    refine Tops_step rfl (OpT_loadCA (vs := [vU64 pp2.Addr, vU32 pp2.Len, vU16 pp2.ID, vU16 pp2.Flags]) rfl rfl rfl rfl tyF31 (i := 2) rfl rfl rfl) ?_
    obtain ⟨packed1, hx4, h⟩ := ob_e h
    refine Tops_exP rfl (OpT_call (w_desc_PackedBytes hx4) [] [] rfl rfl rfl rfl rfl callee14 rfl rfl rfl rfl) ?_
    rintro _ ⟨v2, _, _, ⟨_, rfl, rfl, rfl⟩, rfl⟩
    refine Tops_retire (i := 7) rfl ?_
    obtain ⟨readpa1, hx5, h⟩ := ob_e h
    refine Tops_exP rfl (OpT_call (w_desc_ReadPacked hx5) [] [1] rfl rfl rfl rfl rfl callee16 rfl rfl rfl rfl) ?_
    rintro _ ⟨_, _, _, ⟨rfl, rfl, rfl⟩, rfl⟩
    refine Tops_step rfl (OpT_move rfl rfl rfl rfl) ?_
    refine Tops_step rfl (OpT_extract rfl rfl rfl rfl rfl) ?_
    refine Tops_step rfl (OpT_extract rfl rfl rfl rfl rfl) ?_
    refine Tops_ex rfl (OpT_alloc rfl rfl rfl tyZ31) fun b8 => ?_
    refine Tops_step rfl (OpT_storeC (cs' := [vU64 readpa1.1.Addr, vU32 readpa1.1.Len, vU16 readpa1.1.ID, vU16 readpa1.1.Flags]) rfl rfl rfl rfl tyF31 (i := 8) rfl rfl rfl (one_of rfl) rfl) ?_
    refine Tops_step rfl (OpT_assign rfl rfl rfl rfl) ?_
    refine Tops_nil ?_
    refine Tk_wkS (fr' := [(6, some (vl1)), (7, some (.pointer (some ⟨b1, 0, none⟩))), (8, some (.pointer (some ⟨b2, 0, none⟩))), (9, some (.pointer (some ⟨b3, 0, none⟩))), (10, some (.pointer (some ⟨b4, 0, none⟩))), (11, some (.pointer (some ⟨b5, 0, none⟩))), (12, some (.pointer (some ⟨b6, 0, none⟩))), (15, some (.pointer (some ⟨b7, 0, none⟩))), (16, some (vI read1.2)), (17, some (.pointer (some ⟨b8, 0, none⟩))), (18, some (vI readpa1.2))]) (own' := [some (cellsR b1 29 [vU64 ap0.Addr, vU32 ap0.Len, vU16 ap0.Flags, vU16 ap0.Next]), some (cellsR b2 29 [vU64 b.Addr, vU32 b.Len, vU16 b.Flags, vU16 b.Next]), some (cellsR b3 31 [vU64 pp2.Addr, vU32 pp2.Len, vU16 pp2.ID, vU16 pp2.Flags]), some (cellsR b4 31 [vU64 qp3.Addr, vU32 qp3.Len, vU16 qp3.ID, vU16 qp3.Flags]), some (cellsR b5 49 [vU32 u.ID, vU32 u.Len]), some (cellsR b6 52 [vU16 vp5.Off, vU16 vp5.Flags]), some (cellsR b7 29 [vU64 read1.1.Addr, vU32 read1.1.Len, vU16 read1.1.Flags, vU16 read1.1.Next]), some (cellsR b8 31 [vU64 readpa1.1.Addr, vU32 readpa1.1.Len, vU16 readpa1.1.ID, vU16 readpa1.1.Flags])]) (shr' := [Fact.sl DescS vl1 l]) [6, 7, 8, 9, 10, 11, 12, 15, 16, 17, 18] [0, 1, 2, 3, 4, 5, 6, 8] [0] rfl rfl rfl rfl ?_
    refine Tk_seq ?_
    refine Tk_region ?_
    refine Tops_step rfl (OpT_move rfl rfl rfl rfl) ?_
    obtain ⟨table1, hx6, h⟩ := ob_e h
    refine Tops_exP rfl (OpT_call (w_desc_Table hx6) [] [0] rfl rfl rfl rfl rfl callee17 rfl rfl rfl rfl) ?_
    rintro _ ⟨v3, _, _, ⟨_, rfl, rfl, rfl⟩, rfl⟩
    refine Tops_retire (i := 8) rfl ?_
    obtain ⟨readta1, hx7, h⟩ := ob_e h
    refine Tops_exP rfl (OpT_call (w_desc_ReadTable hx7) [] [1] rfl rfl rfl rfl rfl callee18 rfl rfl rfl rfl) ?_
    rintro _ ⟨_, _, _, ⟨v4, rfl, rfl, rfl⟩, rfl⟩
    refine Tops_step rfl (OpT_move rfl rfl rfl rfl) ?_
    refine Tops_step rfl (OpT_extract rfl rfl rfl rfl rfl) ?_
    refine Tops_step rfl (OpT_extract rfl rfl rfl rfl rfl) ?_
    refine Tops_step rfl (OpT_assign rfl rfl rfl rfl) ?_
    refine Tops_step rfl (OpT_assign rfl rfl rfl rfl) ?_
    refine Tops_nil ?_
    refine Tk_wkS (fr' := [(6, some (vl1)), (7, some (.pointer (some ⟨b1, 0, none⟩))), (8, some (.pointer (some ⟨b2, 0, none⟩))), (9, some (.pointer (some ⟨b3, 0, none⟩))), (10, some (.pointer (some ⟨b4, 0, none⟩))), (11, some (.pointer (some ⟨b5, 0, none⟩))), (12, some (.pointer (some ⟨b6, 0, none⟩))), (15, some (.pointer (some ⟨b7, 0, none⟩))), (16, some (vI read1.2)), (17, some (.pointer (some ⟨b8, 0, none⟩))), (18, some (vI readpa1.2)), (19, some (v4)), (20, some (vI readta1.2))]) (own' := [some (cellsR b1 29 [vU64 ap0.Addr, vU32 ap0.Len, vU16 ap0.Flags, vU16 ap0.Next]), some (cellsR b2 29 [vU64 b.Addr, vU32 b.Len, vU16 b.Flags, vU16 b.Next]), some (cellsR b3 31 [vU64 pp2.Addr, vU32 pp2.Len, vU16 pp2.ID, vU16 pp2.Flags]), some (cellsR b4 31 [vU64 qp3.Addr, vU32 qp3.Len, vU16 qp3.ID, vU16 qp3.Flags]), some (cellsR b5 49 [vU32 u.ID, vU32 u.Len]), some (cellsR b6 52 [vU16 vp5.Off, vU16 vp5.Flags]), some (cellsR b7 29 [vU64 read1.1.Addr, vU32 read1.1.Len, vU16 read1.1.Flags, vU16 read1.1.Next]), some (cellsR b8 31 [vU64 readpa1.1.Addr, vU32 readpa1.1.Len, vU16 readpa1.1.ID, vU16 readpa1.1.Flags]), some (rowS DescS v4 readta1.1)]) (shr' := [Fact.sl DescS vl1 l]) [6, 7, 8, 9, 10, 11, 12, 15, 16, 17, 18, 19, 20] [0, 1, 2, 3, 4, 5, 6, 7, 9] [0] rfl rfl rfl rfl ?_
    refine Tk_seq ?_
    refine Tk_drawT (by kernel_rfl) ?_
    refine TA_tb [0, 1, 3, 7, 7, 31, 63, 127, 255, 511, 1023, 2047, 4095, 4095, 16383, 32767, 65535, 131071, 262143, 524287, 131071, 1572863, 3670015, 8388607, 131071, 131071, 50462719, 134217727, 268435455, 536870911, 1073741823, 2147483647, 4294967295, 1073741823, 12884901887, 30064771071, 68719476735, 1073741823, 1073741823, 413390602239, 1099511627775, 2199023255551, 4398046511103, 8796093022207, 17592186044415, 35184372088831, 8796093022207, 140737488355327, 281474976710655, 562949953421311, 1125899906842623, 2251799813685247, 4503599627370495, 1125899906842623, 18014398509481983, 36028797018963967, 72057594037927935, 144115188075855871, 288230376151711743, 576460752303423487, 1152921504606846975, 2305843009213693951, 4611686018427387903, 9223372036854775807, 18446744073709551615, 36893488147419103231, 73786976294838206463, 73786976294838206463, 295147905179352825855, 590295810358705651711, 1180591620717411303423, 2361183241434822606847, 4722366482869645213695, 9444732965739290427391, 2361183241434822606847, 21250649172913403461631, 59029581035870565171199, 151115727451828646838271, 302231454903657293676543, 604462909807314587353087] (by kernel_rfl) fun htb => ?_
    refine TA_step htb (by kernel_rfl) rfl rfl (OpT_move rfl rfl rfl rfl) ?_
    refine TA_step htb (by kernel_rfl) rfl rfl (OpT_bin rfl rfl rfl rfl rfl (bin_eql_i (a := read1.2) (b := (0 : Int)))) ?_
    refine TA_step htb (by kernel_rfl) rfl rfl (OpT_move rfl rfl rfl rfl) ?_
    refine TA_wkS (fr' := [(6, some (vl1)), (7, some (.pointer (some ⟨b1, 0, none⟩))), (8, some (.pointer (some ⟨b2, 0, none⟩))), (9, some (.pointer (some ⟨b3, 0, none⟩))), (10, some (.pointer (some ⟨b4, 0, none⟩))), (11, some (.pointer (some ⟨b5, 0, none⟩))), (12, some (.pointer (some ⟨b6, 0, none⟩))), (15, some (.pointer (some ⟨b7, 0, none⟩))), (17, some (.pointer (some ⟨b8, 0, none⟩))), (18, some (vI readpa1.2)), (19, some (v4)), (20, some (vI readta1.2)), (46, some (vB (read1.2 == (0 : Int))))]) (own' := [some (cellsR b1 29 [vU64 ap0.Addr, vU32 ap0.Len, vU16 ap0.Flags, vU16 ap0.Next]), some (cellsR b2 29 [vU64 b.Addr, vU32 b.Len, vU16 b.Flags, vU16 b.Next]), some (cellsR b3 31 [vU64 pp2.Addr, vU32 pp2.Len, vU16 pp2.ID, vU16 pp2.Flags]), some (cellsR b4 31 [vU64 qp3.Addr, vU32 qp3.Len, vU16 qp3.ID, vU16 qp3.Flags]), some (cellsR b5 49 [vU32 u.ID, vU32 u.Len]), some (cellsR b6 52 [vU16 vp5.Off, vU16 vp5.Flags]), some (cellsR b7 29 [vU64 read1.1.Addr, vU32 read1.1.Len, vU16 read1.1.Flags, vU16 read1.1.Next]), some (cellsR b8 31 [vU64 readpa1.1.Addr, vU32 readpa1.1.Len, vU16 readpa1.1.ID, vU16 readpa1.1.Flags]), some (rowS DescS v4 readta1.1)]) (shr' := [Fact.sl DescS vl1 l]) [6, 7, 8, 9, 10, 11, 12, 15, 17, 18, 19, 20, 46] [0, 1, 2, 3, 4, 5, 6, 7, 8] [0] rfl rfl rfl rfl ?_
    obtain ⟨hg3, h⟩ := chk_e h
    refine TA_seg (lo := 3) (hi := 5) htb rfl rfl (by kernel_rfl) (fun c L a w => Sat c ⟨[(6, some (vl1)), (7, some (.pointer (some ⟨b1, 0, none⟩))), (8, some (.pointer (some ⟨b2, 0, none⟩))), (9, some (.pointer (some ⟨b3, 0, none⟩))), (10, some (.pointer (some ⟨b4, 0, none⟩))), (11, some (.pointer (some ⟨b5, 0, none⟩))), (12, some (.pointer (some ⟨b6, 0, none⟩))), (15, some (.pointer (some ⟨b7, 0, none⟩))), (17, some (.pointer (some ⟨b8, 0, none⟩))), (18, some (vI readpa1.2)), (19, some (v4)), (20, some (vI readta1.2)), (46, some (vB (read1.2 == (0 : Int)))), (47, bif L 3 then some (.agg #[vU64 read1.1.Addr, vU32 read1.1.Len, vU16 read1.1.Flags, vU16 read1.1.Next]) else none), (48, bif L 4 then some (.agg #[vU64 ap0.Addr, vU32 ap0.Len, vU16 ap0.Flags, vU16 ap0.Next]) else none)], [(some (cellsR b1 29 [vU64 ap0.Addr, vU32 ap0.Len, vU16 ap0.Flags, vU16 ap0.Next]) : Option Res), (some (cellsR b2 29 [vU64 b.Addr, vU32 b.Len, vU16 b.Flags, vU16 b.Next]) : Option Res), (some (cellsR b3 31 [vU64 pp2.Addr, vU32 pp2.Len, vU16 pp2.ID, vU16 pp2.Flags]) : Option Res), (some (cellsR b4 31 [vU64 qp3.Addr, vU32 qp3.Len, vU16 qp3.ID, vU16 qp3.Flags]) : Option Res), (some (cellsR b5 49 [vU32 u.ID, vU32 u.Len]) : Option Res), (some (cellsR b6 52 [vU16 vp5.Off, vU16 vp5.Flags]) : Option Res), (some (cellsR b7 29 [vU64 read1.1.Addr, vU32 read1.1.Len, vU16 read1.1.Flags, vU16 read1.1.Next]) : Option Res), (some (cellsR b8 31 [vU64 readpa1.1.Addr, vU32 readpa1.1.Len, vU16 readpa1.1.ID, vU16 readpa1.1.Flags]) : Option Res), (some (rowS DescS v4 readta1.1) : Option Res)], [Fact.sl DescS vl1 l]⟩ a w) [([], []), ([], [])] rfl (by kernel_rfl) ?_ (steps_cons ?_ (steps_cons ?_ (steps_nil))) ?_
    · intro a w hs
      exact hs.startF [47, 48] [0, 1, 2, 3, 4, 5, 6, 7, 8] [0] rfl rfl rfl rfl
    · intro L a w hv K Q hK
      have hs := hv
      refine wpOp_yes rfl rfl rfl hs (congrArg (fun b => some (Value.bool b)) hg3) (OpT_loadCA (vs := [vU64 read1.1.Addr, vU32 read1.1.Len, vU16 read1.1.Flags, vU16 read1.1.Next]) rfl rfl rfl rfl tyF29 (i := 6) rfl rfl rfl) ?_
      rintro _ rfl a' w' hs'
      exact hK a' w' (hs'.putF (i := 13) rfl [0, 1, 2, 3, 4, 5, 6, 7, 8] [0] rfl rfl rfl rfl)
    · intro L a w hv K Q hK
      have hs := hv
      refine wpOp_yes rfl rfl rfl hs (congrArg (fun b => some (Value.bool b)) hg3) (OpT_loadCA (vs := [vU64 ap0.Addr, vU32 ap0.Len, vU16 ap0.Flags, vU16 ap0.Next]) rfl rfl rfl rfl tyF29 (i := 0) rfl rfl rfl) ?_
      rintro _ rfl a' w' hs'
      exact hK a' w' (hs'.putF (i := 14) rfl [0, 1, 2, 3, 4, 5, 6, 7, 8] [0] rfl rfl rfl rfl)
    · intro L a w hL hv
      rw [allTrue hL] at hv
      have hs := hv
      refine (show TA _ _ _ 5 ⟨[(6, some (vl1)), (7, some (.pointer (some ⟨b1, 0, none⟩))), (8, some (.pointer (some ⟨b2, 0, none⟩))), (9, some (.pointer (some ⟨b3, 0, none⟩))), (10, some (.pointer (some ⟨b4, 0, none⟩))), (11, some (.pointer (some ⟨b5, 0, none⟩))), (12, some (.pointer (some ⟨b6, 0, none⟩))), (17, some (.pointer (some ⟨b8, 0, none⟩))), (18, some (vI readpa1.2)), (19, some (v4)), (20, some (vI readta1.2)), (46, some (vB (read1.2 == (0 : Int)))), (47, some (.agg #[vU64 read1.1.Addr, vU32 read1.1.Len, vU16 read1.1.Flags, vU16 read1.1.Next])), (48, some (.agg #[vU64 ap0.Addr, vU32 ap0.Len, vU16 ap0.Flags, vU16 ap0.Next]))], [some (cellsR b1 29 [vU64 ap0.Addr, vU32 ap0.Len, vU16 ap0.Flags, vU16 ap0.Next]), some (cellsR b2 29 [vU64 b.Addr, vU32 b.Len, vU16 b.Flags, vU16 b.Next]), some (cellsR b3 31 [vU64 pp2.Addr, vU32 pp2.Len, vU16 pp2.ID, vU16 pp2.Flags]), some (cellsR b4 31 [vU64 qp3.Addr, vU32 qp3.Len, vU16 qp3.ID, vU16 qp3.Flags]), some (cellsR b5 49 [vU32 u.ID, vU32 u.Len]), some (cellsR b6 52 [vU16 vp5.Off, vU16 vp5.Flags]), some (cellsR b8 31 [vU64 readpa1.1.Addr, vU32 readpa1.1.Len, vU16 readpa1.1.ID, vU16 readpa1.1.Flags]), some (rowS DescS v4 readta1.1)], [Fact.sl DescS vl1 l]⟩ from ?_) a w (hs.wkS [6, 7, 8, 9, 10, 11, 12, 17, 18, 19, 20, 46, 47, 48] [0, 1, 2, 3, 4, 5, 7, 8] [0] rfl rfl rfl rfl)
      clear hs hL
      refine TA_yes htb (by kernel_rfl) rfl rfl rfl (congrArg (fun b => some (Value.bool b)) hg3) (OpT_bin rfl rfl rfl rfl rfl (eqT29_eql read1.1 ap0)) ?_
      rintro _ rfl
      refine TA_step htb (by kernel_rfl) rfl rfl (OpT_pickT rfl rfl rfl (congrArg (fun b => some (Value.bool b)) hg3) rfl) ?_
      refine TA_step htb (by kernel_rfl) rfl rfl (OpT_move rfl rfl rfl rfl) ?_
      obtain ⟨hg4, h⟩ := chk_e h
      refine TA_yes htb (by kernel_rfl) rfl rfl rfl (congrArg (fun b => some (Value.bool b)) hg4) (OpT_move rfl rfl rfl rfl) ?_
      rintro _ rfl
      refine TA_yes htb (by kernel_rfl) rfl rfl rfl (congrArg (fun b => some (Value.bool b)) hg4) (OpT_bin rfl rfl rfl rfl rfl (bin_eql_i (a := readpa1.2) (b := (0 : Int)))) ?_
      rintro _ rfl
      refine TA_step htb (by kernel_rfl) rfl rfl (OpT_pickT rfl rfl rfl (congrArg (fun b => some (Value.bool b)) hg4) rfl) ?_
      refine TA_wkS (fr' := [(6, some (vl1)), (7, some (.pointer (some ⟨b1, 0, none⟩))), (8, some (.pointer (some ⟨b2, 0, none⟩))), (9, some (.pointer (some ⟨b3, 0, none⟩))), (10, some (.pointer (some ⟨b4, 0, none⟩))), (11, some (.pointer (some ⟨b5, 0, none⟩))), (12, some (.pointer (some ⟨b6, 0, none⟩))), (17, some (.pointer (some ⟨b8, 0, none⟩))), (19, some (v4)), (20, some (vI readta1.2)), (54, some (vB (readpa1.2 == (0 : Int))))]) (own' := [some (cellsR b1 29 [vU64 ap0.Addr, vU32 ap0.Len, vU16 ap0.Flags, vU16 ap0.Next]), some (cellsR b2 29 [vU64 b.Addr, vU32 b.Len, vU16 b.Flags, vU16 b.Next]), some (cellsR b3 31 [vU64 pp2.Addr, vU32 pp2.Len, vU16 pp2.ID, vU16 pp2.Flags]), some (cellsR b4 31 [vU64 qp3.Addr, vU32 qp3.Len, vU16 qp3.ID, vU16 qp3.Flags]), some (cellsR b5 49 [vU32 u.ID, vU32 u.Len]), some (cellsR b6 52 [vU16 vp5.Off, vU16 vp5.Flags]), some (cellsR b8 31 [vU64 readpa1.1.Addr, vU32 readpa1.1.Len, vU16 readpa1.1.ID, vU16 readpa1.1.Flags]), some (rowS DescS v4 readta1.1)]) (shr' := [Fact.sl DescS vl1 l]) [6, 7, 8, 9, 10, 11, 12, 17, 19, 20, 54] [0, 1, 2, 3, 4, 5, 6, 7] [0] rfl rfl rfl rfl ?_
      refine TA_step htb (by kernel_rfl) rfl rfl (OpT_move rfl rfl rfl rfl) ?_
      refine TA_wkS (fr' := [(6, some (vl1)), (7, some (.pointer (some ⟨b1, 0, none⟩))), (8, some (.pointer (some ⟨b2, 0, none⟩))), (9, some (.pointer (some ⟨b3, 0, none⟩))), (10, some (.pointer (some ⟨b4, 0, none⟩))), (11, some (.pointer (some ⟨b5, 0, none⟩))), (12, some (.pointer (some ⟨b6, 0, none⟩))), (17, some (.pointer (some ⟨b8, 0, none⟩))), (19, some (v4)), (20, some (vI readta1.2)), (55, some (vB (readpa1.2 == (0 : Int))))]) (own' := [some (cellsR b1 29 [vU64 ap0.Addr, vU32 ap0.Len, vU16 ap0.Flags, vU16 ap0.Next]), some (cellsR b2 29 [vU64 b.Addr, vU32 b.Len, vU16 b.Flags, vU16 b.Next]), some (cellsR b3 31 [vU64 pp2.Addr, vU32 pp2.Len, vU16 pp2.ID, vU16 pp2.Flags]), some (cellsR b4 31 [vU64 qp3.Addr, vU32 qp3.Len, vU16 qp3.ID, vU16 qp3.Flags]), some (cellsR b5 49 [vU32 u.ID, vU32 u.Len]), some (cellsR b6 52 [vU16 vp5.Off, vU16 vp5.Flags]), some (cellsR b8 31 [vU64 readpa1.1.Addr, vU32 readpa1.1.Len, vU16 readpa1.1.ID, vU16 readpa1.1.Flags]), some (rowS DescS v4 readta1.1)]) (shr' := [Fact.sl DescS vl1 l]) [6, 7, 8, 9, 10, 11, 12, 17, 19, 20, 55] [0, 1, 2, 3, 4, 5, 6, 7] [0] rfl rfl rfl rfl ?_
      obtain ⟨hg5, h⟩ := chk_e h
      refine TA_seg (lo := 12) (hi := 14) htb rfl rfl (by kernel_rfl) (fun c L a w => Sat c ⟨[(6, some (vl1)), (7, some (.pointer (some ⟨b1, 0, none⟩))), (8, some (.pointer (some ⟨b2, 0, none⟩))), (9, some (.pointer (some ⟨b3, 0, none⟩))), (10, some (.pointer (some ⟨b4, 0, none⟩))), (11, some (.pointer (some ⟨b5, 0, none⟩))), (12, some (.pointer (some ⟨b6, 0, none⟩))), (17, some (.pointer (some ⟨b8, 0, none⟩))), (19, some (v4)), (20, some (vI readta1.2)), (55, some (vB (readpa1.2 == (0 : Int)))), (56, bif L 12 then some (.agg #[vU64 readpa1.1.Addr, vU32 readpa1.1.Len, vU16 readpa1.1.ID, vU16 readpa1.1.Flags]) else none), (57, bif L 13 then some (.agg #[vU64 pp2.Addr, vU32 pp2.Len, vU16 pp2.ID, vU16 pp2.Flags]) else none)], [(some (cellsR b1 29 [vU64 ap0.Addr, vU32 ap0.Len, vU16 ap0.Flags, vU16 ap0.Next]) : Option Res), (some (cellsR b2 29 [vU64 b.Addr, vU32 b.Len, vU16 b.Flags, vU16 b.Next]) : Option Res), (some (cellsR b3 31 [vU64 pp2.Addr, vU32 pp2.Len, vU16 pp2.ID, vU16 pp2.Flags]) : Option Res), (some (cellsR b4 31 [vU64 qp3.Addr, vU32 qp3.Len, vU16 qp3.ID, vU16 qp3.Flags]) : Option Res), (some (cellsR b5 49 [vU32 u.ID, vU32 u.Len]) : Option Res), (some (cellsR b6 52 [vU16 vp5.Off, vU16 vp5.Flags]) : Option Res), (some (cellsR b8 31 [vU64 readpa1.1.Addr, vU32 readpa1.1.Len, vU16 readpa1.1.ID, vU16 readpa1.1.Flags]) : Option Res), (some (rowS DescS v4 readta1.1) : Option Res)], [Fact.sl DescS vl1 l]⟩ a w) [([], []), ([], [])] rfl (by kernel_rfl) ?_ (steps_cons ?_ (steps_cons ?_ (steps_nil))) ?_
      · intro a w hs
        exact hs.startF [56, 57] [0, 1, 2, 3, 4, 5, 6, 7] [0] rfl rfl rfl rfl
      · intro L a w hv K Q hK
        have hs := hv
        refine wpOp_yes rfl rfl rfl hs (congrArg (fun b => some (Value.bool b)) hg5) (OpT_loadCA (vs := [vU64 readpa1.1.Addr, vU32 readpa1.1.Len, vU16 readpa1.1.ID, vU16 readpa1.1.Flags]) rfl rfl rfl rfl tyF31 (i := 6) rfl rfl rfl) ?_
        rintro _ rfl a' w' hs'
        exact hK a' w' (hs'.putF (i := 11) rfl [0, 1, 2, 3, 4, 5, 6, 7] [0] rfl rfl rfl rfl)
      · intro L a w hv K Q hK
        have hs := hv
        refine wpOp_yes rfl rfl rfl hs (congrArg (fun b => some (Value.bool b)) hg5) (OpT_loadCA (vs := [vU64 pp2.Addr, vU32 pp2.Len, vU16 pp2.ID, vU16 pp2.Flags]) rfl rfl rfl rfl tyF31 (i := 2) rfl rfl rfl) ?_
        rintro _ rfl a' w' hs'
        exact hK a' w' (hs'.putF (i := 12) rfl [0, 1, 2, 3, 4, 5, 6, 7] [0] rfl rfl rfl rfl)
      · intro L a w hL hv
        rw [allTrue hL] at hv
        have hs := hv
        refine (show TA _ _ _ 14 ⟨[(6, some (vl1)), (7, some (.pointer (some ⟨b1, 0, none⟩))), (8, some (.pointer (some ⟨b2, 0, none⟩))), (9, some (.pointer (some ⟨b3, 0, none⟩))), (10, some (.pointer (some ⟨b4, 0, none⟩))), (11, some (.pointer (some ⟨b5, 0, none⟩))), (12, some (.pointer (some ⟨b6, 0, none⟩))), (19, some (v4)), (20, some (vI readta1.2)), (55, some (vB (readpa1.2 == (0 : Int)))), (56, some (.agg #[vU64 readpa1.1.Addr, vU32 readpa1.1.Len, vU16 readpa1.1.ID, vU16 readpa1.1.Flags])), (57, some (.agg #[vU64 pp2.Addr, vU32 pp2.Len, vU16 pp2.ID, vU16 pp2.Flags]))], [some (cellsR b1 29 [vU64 ap0.Addr, vU32 ap0.Len, vU16 ap0.Flags, vU16 ap0.Next]), some (cellsR b2 29 [vU64 b.Addr, vU32 b.Len, vU16 b.Flags, vU16 b.Next]), some (cellsR b3 31 [vU64 pp2.Addr, vU32 pp2.Len, vU16 pp2.ID, vU16 pp2.Flags]), some (cellsR b4 31 [vU64 qp3.Addr, vU32 qp3.Len, vU16 qp3.ID, vU16 qp3.Flags]), some (cellsR b5 49 [vU32 u.ID, vU32 u.Len]), some (cellsR b6 52 [vU16 vp5.Off, vU16 vp5.Flags]), some (rowS DescS v4 readta1.1)], [Fact.sl DescS vl1 l]⟩ from ?_) a w (hs.wkS [6, 7, 8, 9, 10, 11, 12, 19, 20, 55, 56, 57] [0, 1, 2, 3, 4, 5, 7] [0] rfl rfl rfl rfl)
        clear hs hL
        refine TA_yes htb (by kernel_rfl) rfl rfl rfl (congrArg (fun b => some (Value.bool b)) hg5) (OpT_bin rfl rfl rfl rfl rfl (eqT31_eql readpa1.1 pp2)) ?_
        rintro _ rfl
        refine TA_step htb (by kernel_rfl) rfl rfl (OpT_pickT rfl rfl rfl (congrArg (fun b => some (Value.bool b)) hg5) rfl) ?_
        refine TA_step htb (by kernel_rfl) rfl rfl (OpT_move rfl rfl rfl rfl) ?_
        refine TA_wkS (fr' := [(6, some (vl1)), (7, some (.pointer (some ⟨b1, 0, none⟩))), (8, some (.pointer (some ⟨b2, 0, none⟩))), (9, some (.pointer (some ⟨b3, 0, none⟩))), (10, some (.pointer (some ⟨b4, 0, none⟩))), (11, some (.pointer (some ⟨b5, 0, none⟩))), (12, some (.pointer (some ⟨b6, 0, none⟩))), (19, some (v4)), (20, some (vI readta1.2)), (60, some (vB (readpa1.1 == pp2)))]) (own' := [some (cellsR b1 29 [vU64 ap0.Addr, vU32 ap0.Len, vU16 ap0.Flags, vU16 ap0.Next]), some (cellsR b2 29 [vU64 b.Addr, vU32 b.Len, vU16 b.Flags, vU16 b.Next]), some (cellsR b3 31 [vU64 pp2.Addr, vU32 pp2.Len, vU16 pp2.ID, vU16 pp2.Flags]), some (cellsR b4 31 [vU64 qp3.Addr, vU32 qp3.Len, vU16 qp3.ID, vU16 qp3.Flags]), some (cellsR b5 49 [vU32 u.ID, vU32 u.Len]), some (cellsR b6 52 [vU16 vp5.Off, vU16 vp5.Flags]), some (rowS DescS v4 readta1.1)]) (shr' := [Fact.sl DescS vl1 l]) [6, 7, 8, 9, 10, 11, 12, 19, 20, 60] [0, 1, 2, 3, 4, 5, 6] [0] rfl rfl rfl rfl ?_
        obtain ⟨hg6, h⟩ := chk_e h
        obtain ⟨bytes2, hx8, h⟩ := ob_e h
        obtain ⟨bytes3, hx9, h⟩ := ob_e h
        refine TA_seg (lo := 17) (hi := 27) htb rfl rfl (by kernel_rfl) (fun c L a w => ∃ (v5 : Value), ∃ (v6 : Value), Sat c ⟨[(6, some (vl1)), (7, some (.pointer (some ⟨b1, 0, none⟩))), (8, some (.pointer (some ⟨b2, 0, none⟩))), (9, some (.pointer (some ⟨b3, 0, none⟩))), (10, some (.pointer (some ⟨b4, 0, none⟩))), (11, some (.pointer (some ⟨b5, 0, none⟩))), (12, some (.pointer (some ⟨b6, 0, none⟩))), (19, some (v4)), (20, some (vI readta1.2)), (60, some (vB (readpa1.1 == pp2))), (61, bif L 17 then some (.agg #[vU64 ap0.Addr, vU32 ap0.Len, vU16 ap0.Flags, vU16 ap0.Next]) else none), (62, bif L 18 then some (v5) else none), (63, bif L 19 then some (vS bytes2) else none), (64, bif L 20 then some (.agg #[vU64 b.Addr, vU32 b.Len, vU16 b.Flags, vU16 b.Next]) else none), (65, bif L 21 then some (v6) else none), (66, bif L 22 then some (vS bytes3) else none), (67, bif L 23 then some (vB (bytes2 == bytes3)) else none), (68, bif L 24 then some (.agg #[vU64 ap0.Addr, vU32 ap0.Len, vU16 ap0.Flags, vU16 ap0.Next]) else none), (69, bif L 25 then some (.agg #[vU64 b.Addr, vU32 b.Len, vU16 b.Flags, vU16 b.Next]) else none), (70, bif L 26 then some (vB (ap0 == b)) else none)], [(some (cellsR b1 29 [vU64 ap0.Addr, vU32 ap0.Len, vU16 ap0.Flags, vU16 ap0.Next]) : Option Res), (some (cellsR b2 29 [vU64 b.Addr, vU32 b.Len, vU16 b.Flags, vU16 b.Next]) : Option Res), (some (cellsR b3 31 [vU64 pp2.Addr, vU32 pp2.Len, vU16 pp2.ID, vU16 pp2.Flags]) : Option Res), (some (cellsR b4 31 [vU64 qp3.Addr, vU32 qp3.Len, vU16 qp3.ID, vU16 qp3.Flags]) : Option Res), (some (cellsR b5 49 [vU32 u.ID, vU32 u.Len]) : Option Res), (some (cellsR b6 52 [vU16 vp5.Off, vU16 vp5.Flags]) : Option Res), (some (rowS DescS v4 readta1.1) : Option Res)], [Fact.sl DescS vl1 l, (bif L 18 then Fact.sl u8S v5 bytes2 else Fact.tt), (bif L 21 then Fact.sl u8S v6 bytes3 else Fact.tt)]⟩ a w) [([], [18, 19, 21, 22, 23]), ([17], [19, 21, 22, 23]), ([17, 18], [23]), ([], [21, 22, 23]), ([17, 18, 20], [22, 23]), ([17, 18, 20, 21], [23]), ([17, 18, 19, 20, 21, 22], []), ([], [26]), ([], [26]), ([24, 25], [])] rfl (by kernel_rfl) ?_ (steps_cons ?_ (steps_cons ?_ (steps_cons ?_ (steps_cons ?_ (steps_cons ?_ (steps_cons ?_ (steps_cons ?_ (steps_cons ?_ (steps_cons ?_ (steps_cons ?_ (steps_nil))))))))))) ?_
        · intro a w hs
          exact ⟨undef, undef, hs.startF [61, 62, 63, 64, 65, 66, 67, 68, 69, 70] [0, 1, 2, 3, 4, 5, 6] [0, 1, 2] rfl rfl rfl rfl⟩
        · intro L a w hv K Q hK
          obtain ⟨v5, v6, hs⟩ := hv
          refine wpOp_yes rfl rfl rfl hs (congrArg (fun b => some (Value.bool b)) hg6) (OpT_loadCA (vs := [vU64 ap0.Addr, vU32 ap0.Len, vU16 ap0.Flags, vU16 ap0.Next]) rfl rfl rfl rfl tyF29 (i := 0) rfl rfl rfl) ?_
          rintro _ rfl a' w' hs'
          exact hK a' w' ⟨v5, v6, hs'.putF (i := 10) rfl [0, 1, 2, 3, 4, 5, 6] [0, 1, 2] rfl rfl rfl rfl⟩
        · intro L a w hv K Q hK
          obtain ⟨v5, v6, hs⟩ := hv
          refine wpOp_yes rfl rfl rfl hs (congrArg (fun b => some (Value.bool b)) hg6) (OpT_call (ws_desc_Bytes hx8) [] [] rfl rfl rfl rfl rfl callee13 rfl rfl rfl rfl) ?_
          rintro _ ⟨v5', _, _, ⟨_, rfl, rfl, rfl⟩, rfl⟩ a' w' hs'
          exact hK a' w' ⟨v5', v6, hs'.putF (i := 11) rfl [0, 1, 2, 3, 4, 5, 6] [0, 3, 2] rfl rfl rfl rfl⟩
        · intro L a w hv K Q hK
          obtain ⟨v5, v6, hs⟩ := hv
          refine wpOp_yes rfl rfl rfl hs (congrArg (fun b => some (Value.bool b)) hg6) (OpT_strS rfl rfl rfl rfl Try.underlying34 Try.underlying5 Try.underlying9 (i := 1) rfl) ?_
          rintro _ rfl a' w' hs'
          exact hK a' w' ⟨v5, v6, hs'.putF (i := 12) rfl [0, 1, 2, 3, 4, 5, 6] [0, 1, 2] rfl rfl rfl rfl⟩
        · intro L a w hv K Q hK
          obtain ⟨v5, v6, hs⟩ := hv
          refine wpOp_yes rfl rfl rfl hs (congrArg (fun b => some (Value.bool b)) hg6) (OpT_loadCA (vs := [vU64 b.Addr, vU32 b.Len, vU16 b.Flags, vU16 b.Next]) rfl rfl rfl rfl tyF29 (i := 1) rfl rfl rfl) ?_
          rintro _ rfl a' w' hs'
          exact hK a' w' ⟨v5, v6, hs'.putF (i := 13) rfl [0, 1, 2, 3, 4, 5, 6] [0, 1, 2] rfl rfl rfl rfl⟩
        · intro L a w hv K Q hK
          obtain ⟨v5, v6, hs⟩ := hv
          refine wpOp_yes rfl rfl rfl hs (congrArg (fun b => some (Value.bool b)) hg6) (OpT_call (ws_desc_Bytes hx9) [] [] rfl rfl rfl rfl rfl callee13 rfl rfl rfl rfl) ?_
          rintro _ ⟨v6', _, _, ⟨_, rfl, rfl, rfl⟩, rfl⟩ a' w' hs'
          exact hK a' w' ⟨v5, v6', hs'.putF (i := 14) rfl [0, 1, 2, 3, 4, 5, 6] [0, 1, 3] rfl rfl rfl rfl⟩
        · intro L a w hv K Q hK
          obtain ⟨v5, v6, hs⟩ := hv
          refine wpOp_yes rfl rfl rfl hs (congrArg (fun b => some (Value.bool b)) hg6) (OpT_strS rfl rfl rfl rfl Try.underlying34 Try.underlying5 Try.underlying9 (i := 2) rfl) ?_
          rintro _ rfl a' w' hs'
          exact hK a' w' ⟨v5, v6, hs'.putF (i := 15) rfl [0, 1, 2, 3, 4, 5, 6] [0, 1, 2] rfl rfl rfl rfl⟩
        · intro L a w hv K Q hK
          obtain ⟨v5, v6, hs⟩ := hv
          refine wpOp_yes rfl rfl rfl hs (congrArg (fun b => some (Value.bool b)) hg6) (OpT_bin rfl rfl rfl rfl rfl (bin_eql_s (a := bytes2) (b := bytes3))) ?_
          rintro _ rfl a' w' hs'
          exact hK a' w' ⟨v5, v6, hs'.putF (i := 16) rfl [0, 1, 2, 3, 4, 5, 6] [0, 1, 2] rfl rfl rfl rfl⟩
        · intro L a w hv K Q hK
          obtain ⟨v5, v6, hs⟩ := hv
          refine wpOp_yes rfl rfl rfl hs (congrArg (fun b => some (Value.bool b)) hg6) (OpT_loadCA (vs := [vU64 ap0.Addr, vU32 ap0.Len, vU16 ap0.Flags, vU16 ap0.Next]) rfl rfl rfl rfl tyF29 (i := 0) rfl rfl rfl) ?_
          rintro _ rfl a' w' hs'
          exact hK a' w' ⟨v5, v6, hs'.putF (i := 17) rfl [0, 1, 2, 3, 4, 5, 6] [0, 1, 2] rfl rfl rfl rfl⟩
        · intro L a w hv K Q hK
          obtain ⟨v5, v6, hs⟩ := hv
          refine wpOp_yes rfl rfl rfl hs (congrArg (fun b => some (Value.bool b)) hg6) (OpT_loadCA (vs := [vU64 b.Addr, vU32 b.Len, vU16 b.Flags, vU16 b.Next]) rfl rfl rfl rfl tyF29 (i := 1) rfl rfl rfl) ?_
          rintro _ rfl a' w' hs'
          exact hK a' w' ⟨v5, v6, hs'.putF (i := 18) rfl [0, 1, 2, 3, 4, 5, 6] [0, 1, 2] rfl rfl rfl rfl⟩
        · intro L a w hv K Q hK
          obtain ⟨v5, v6, hs⟩ := hv
          refine wpOp_yes rfl rfl rfl hs (congrArg (fun b => some (Value.bool b)) hg6) (OpT_bin rfl rfl rfl rfl rfl (eqT29_eql ap0 b)) ?_
          rintro _ rfl a' w' hs'
          exact hK a' w' ⟨v5, v6, hs'.putF (i := 19) rfl [0, 1, 2, 3, 4, 5, 6] [0, 1, 2] rfl rfl rfl rfl⟩
        · intro L a w hL hv
          rw [allTrue hL] at hv
          obtain ⟨v5, v6, hs⟩ := hv
          refine (show TA _ _ _ 27 ⟨[(6, some (vl1)), (9, some (.pointer (some ⟨b3, 0, none⟩))), (10, some (.pointer (some ⟨b4, 0, none⟩))), (11, some (.pointer (some ⟨b5, 0, none⟩))), (12, some (.pointer (some ⟨b6, 0, none⟩))), (19, some (v4)), (20, some (vI readta1.2)), (60, some (vB (readpa1.1 == pp2))), (67, some (vB (bytes2 == bytes3))), (70, some (vB (ap0 == b)))], [some (cellsR b3 31 [vU64 pp2.Addr, vU32 pp2.Len, vU16 pp2.ID, vU16 pp2.Flags]), some (cellsR b4 31 [vU64 qp3.Addr, vU32 qp3.Len, vU16 qp3.ID, vU16 qp3.Flags]), some (cellsR b5 49 [vU32 u.ID, vU32 u.Len]), some (cellsR b6 52 [vU16 vp5.Off, vU16 vp5.Flags]), some (rowS DescS v4 readta1.1)], [Fact.sl DescS vl1 l]⟩ from ?_) a w (hs.wkS [6, 9, 10, 11, 12, 19, 20, 60, 67, 70] [2, 3, 4, 5, 6] [0] rfl rfl rfl rfl)
          clear hs hL
          refine TA_yes htb (by kernel_rfl) rfl rfl rfl (congrArg (fun b => some (Value.bool b)) hg6) (OpT_bin rfl rfl rfl rfl rfl (bin_eql_b (a := bytes2 == bytes3) (b := ap0 == b) Try.underlying4)) ?_
          rintro _ rfl
          refine TA_step htb (by kernel_rfl) rfl rfl (OpT_pickT rfl rfl rfl (congrArg (fun b => some (Value.bool b)) hg6) rfl) ?_
          refine TA_step htb (by kernel_rfl) rfl rfl (OpT_move rfl rfl rfl rfl) ?_
          refine TA_wkS (fr' := [(6, some (vl1)), (9, some (.pointer (some ⟨b3, 0, none⟩))), (10, some (.pointer (some ⟨b4, 0, none⟩))), (11, some (.pointer (some ⟨b5, 0, none⟩))), (12, some (.pointer (some ⟨b6, 0, none⟩))), (19, some (v4)), (20, some (vI readta1.2)), (73, some (vB ((bytes2 == bytes3) == (ap0 == b))))]) (own' := [some (cellsR b3 31 [vU64 pp2.Addr, vU32 pp2.Len, vU16 pp2.ID, vU16 pp2.Flags]), some (cellsR b4 31 [vU64 qp3.Addr, vU32 qp3.Len, vU16 qp3.ID, vU16 qp3.Flags]), some (cellsR b5 49 [vU32 u.ID, vU32 u.Len]), some (cellsR b6 52 [vU16 vp5.Off, vU16 vp5.Flags]), some (rowS DescS v4 readta1.1)]) (shr' := [Fact.sl DescS vl1 l]) [6, 9, 10, 11, 12, 19, 20, 73] [0, 1, 2, 3, 4] [0] rfl rfl rfl rfl ?_
          obtain ⟨hg7, h⟩ := chk_e h
          obtain ⟨packed2, hx10, h⟩ := ob_e h
          obtain ⟨packed3, hx11, h⟩ := ob_e h
          refine TA_seg (lo := 30) (hi := 40) htb rfl rfl (by kernel_rfl) (fun c L a w => ∃ (v7 : Value), ∃ (v8 : Value), Sat c ⟨[(6, some (vl1)), (9, some (.pointer (some ⟨b3, 0, none⟩))), (10, some (.pointer (some ⟨b4, 0, none⟩))), (11, some (.pointer (some ⟨b5, 0, none⟩))), (12, some (.pointer (some ⟨b6, 0, none⟩))), (19, some (v4)), (20, some (vI readta1.2)), (73, some (vB ((bytes2 == bytes3) == (ap0 == b)))), (74, bif L 30 then some (.agg #[vU64 pp2.Addr, vU32 pp2.Len, vU16 pp2.ID, vU16 pp2.Flags]) else none), (75, bif L 31 then some (v7) else none), (76, bif L 32 then some (vS packed2) else none), (77, bif L 33 then some (.agg #[vU64 qp3.Addr, vU32 qp3.Len, vU16 qp3.ID, vU16 qp3.Flags]) else none), (78, bif L 34 then some (v8) else none), (79, bif L 35 then some (vS packed3) else none), (80, bif L 36 then some (vB (packed2 == packed3)) else none), (81, bif L 37 then some (.agg #[vU64 pp2.Addr, vU32 pp2.Len, vU16 pp2.ID, vU16 pp2.Flags]) else none), (82, bif L 38 then some (.agg #[vU64 qp3.Addr, vU32 qp3.Len, vU16 qp3.ID, vU16 qp3.Flags]) else none), (83, bif L 39 then some (vB (pp2 == qp3)) else none)], [(some (cellsR b3 31 [vU64 pp2.Addr, vU32 pp2.Len, vU16 pp2.ID, vU16 pp2.Flags]) : Option Res), (some (cellsR b4 31 [vU64 qp3.Addr, vU32 qp3.Len, vU16 qp3.ID, vU16 qp3.Flags]) : Option Res), (some (cellsR b5 49 [vU32 u.ID, vU32 u.Len]) : Option Res), (some (cellsR b6 52 [vU16 vp5.Off, vU16 vp5.Flags]) : Option Res), (some (rowS DescS v4 readta1.1) : Option Res)], [Fact.sl DescS vl1 l, (bif L 31 then Fact.sl u8S v7 packed2 else Fact.tt), (bif L 34 then Fact.sl u8S v8 packed3 else Fact.tt)]⟩ a w) [([], [31, 32, 34, 35, 36]), ([30], [32, 34, 35, 36]), ([30, 31], [36]), ([], [34, 35, 36]), ([30, 31, 33], [35, 36]), ([30, 31, 33, 34], [36]), ([30, 31, 32, 33, 34, 35], []), ([], [39]), ([], [39]), ([37, 38], [])] rfl (by kernel_rfl) ?_ (steps_cons ?_ (steps_cons ?_ (steps_cons ?_ (steps_cons ?_ (steps_cons ?_ (steps_cons ?_ (steps_cons ?_ (steps_cons ?_ (steps_cons ?_ (steps_cons ?_ (steps_nil))))))))))) ?_
          · intro a w hs
            exact ⟨undef, undef, hs.startF [74, 75, 76, 77, 78, 79, 80, 81, 82, 83] [0, 1, 2, 3, 4] [0, 1, 2] rfl rfl rfl rfl⟩
          · intro L a w hv K Q hK
            obtain ⟨v7, v8, hs⟩ := hv
            refine wpOp_yes rfl rfl rfl hs (congrArg (fun b => some (Value.bool b)) hg7) (OpT_loadCA (vs := [vU64 pp2.Addr, vU32 pp2.Len, vU16 pp2.ID, vU16 pp2.Flags]) rfl rfl rfl rfl tyF31 (i := 0) rfl rfl rfl) ?_
            rintro _ rfl a' w' hs'
            exact hK a' w' ⟨v7, v8, hs'.putF (i := 8) rfl [0, 1, 2, 3, 4] [0, 1, 2] rfl rfl rfl rfl⟩
          · intro L a w hv K Q hK
            obtain ⟨v7, v8, hs⟩ := hv
            refine wpOp_yes rfl rfl rfl hs (congrArg (fun b => some (Value.bool b)) hg7) (OpT_call (ws_desc_PackedBytes hx10) [] [] rfl rfl rfl rfl rfl callee14 rfl rfl rfl rfl) ?_
            rintro _ ⟨v7', _, _, ⟨_, rfl, rfl, rfl⟩, rfl⟩ a' w' hs'
            exact hK a' w' ⟨v7', v8, hs'.putF (i := 9) rfl [0, 1, 2, 3, 4] [0, 3, 2] rfl rfl rfl rfl⟩
          · intro L a w hv K Q hK
            obtain ⟨v7, v8, hs⟩ := hv
            refine wpOp_yes rfl rfl rfl hs (congrArg (fun b => some (Value.bool b)) hg7) (OpT_strS rfl rfl rfl rfl Try.underlying34 Try.underlying5 Try.underlying9 (i := 1) rfl) ?_
            rintro _ rfl a' w' hs'
            exact hK a' w' ⟨v7, v8, hs'.putF (i := 10) rfl [0, 1, 2, 3, 4] [0, 1, 2] rfl rfl rfl rfl⟩
          · intro L a w hv K Q hK
            obtain ⟨v7, v8, hs⟩ := hv
            refine wpOp_yes rfl rfl rfl hs (congrArg (fun b => some (Value.bool b)) hg7) (OpT_loadCA (vs := [vU64 qp3.Addr, vU32 qp3.Len, vU16 qp3.ID, vU16 qp3.Flags]) rfl rfl rfl rfl tyF31 (i := 1) rfl rfl rfl) ?_
            rintro _ rfl a' w' hs'
            exact hK a' w' ⟨v7, v8, hs'.putF (i := 11) rfl [0, 1, 2, 3, 4] [0, 1, 2] rfl rfl rfl rfl⟩
          · intro L a w hv K Q hK
            obtain ⟨v7, v8, hs⟩ := hv
            refine wpOp_yes rfl rfl rfl hs (congrArg (fun b => some (Value.bool b)) hg7) (OpT_call (ws_desc_PackedBytes hx11) [] [] rfl rfl rfl rfl rfl callee14 rfl rfl rfl rfl) ?_
            rintro _ ⟨v8', _, _, ⟨_, rfl, rfl, rfl⟩, rfl⟩ a' w' hs'
            exact hK a' w' ⟨v7, v8', hs'.putF (i := 12) rfl [0, 1, 2, 3, 4] [0, 1, 3] rfl rfl rfl rfl⟩
          · intro L a w hv K Q hK
            obtain ⟨v7, v8, hs⟩ := hv
            refine wpOp_yes rfl rfl rfl hs (congrArg (fun b => some (Value.bool b)) hg7) (OpT_strS rfl rfl rfl rfl Try.underlying34 Try.underlying5 Try.underlying9 (i := 2) rfl) ?_
            rintro _ rfl a' w' hs'
            exact hK a' w' ⟨v7, v8, hs'.putF (i := 13) rfl [0, 1, 2, 3, 4] [0, 1, 2] rfl rfl rfl rfl⟩
          · intro L a w hv K Q hK
            obtain ⟨v7, v8, hs⟩ := hv
            refine wpOp_yes rfl rfl rfl hs (congrArg (fun b => some (Value.bool b)) hg7) (OpT_bin rfl rfl rfl rfl rfl (bin_eql_s (a := packed2) (b := packed3))) ?_
            rintro _ rfl a' w' hs'
            exact hK a' w' ⟨v7, v8, hs'.putF (i := 14) rfl [0, 1, 2, 3, 4] [0, 1, 2] rfl rfl rfl rfl⟩
          · intro L a w hv K Q hK
            obtain ⟨v7, v8, hs⟩ := hv
            refine wpOp_yes rfl rfl rfl hs (congrArg (fun b => some (Value.bool b)) hg7) (OpT_loadCA (vs := [vU64 pp2.Addr, vU32 pp2.Len, vU16 pp2.ID, vU16 pp2.Flags]) rfl rfl rfl rfl tyF31 (i := 0) rfl rfl rfl) ?_
            rintro _ rfl a' w' hs'
            exact hK a' w' ⟨v7, v8, hs'.putF (i := 15) rfl [0, 1, 2, 3, 4] [0, 1, 2] rfl rfl rfl rfl⟩
          · intro L a w hv K Q hK
            obtain ⟨v7, v8, hs⟩ := hv
            refine wpOp_yes rfl rfl rfl hs (congrArg (fun b => some (Value.bool b)) hg7) (OpT_loadCA (vs := [vU64 qp3.Addr, vU32 qp3.Len, vU16 qp3.ID, vU16 qp3.Flags]) rfl rfl rfl rfl tyF31 (i := 1) rfl rfl rfl) ?_
            rintro _ rfl a' w' hs'
            exact hK a' w' ⟨v7, v8, hs'.putF (i := 16) rfl [0, 1, 2, 3, 4] [0, 1, 2] rfl rfl rfl rfl⟩
          · intro L a w hv K Q hK
            obtain ⟨v7, v8, hs⟩ := hv
            refine wpOp_yes rfl rfl rfl hs (congrArg (fun b => some (Value.bool b)) hg7) (OpT_bin rfl rfl rfl rfl rfl (eqT31_eql pp2 qp3)) ?_
            rintro _ rfl a' w' hs'
            exact hK a' w' ⟨v7, v8, hs'.putF (i := 17) rfl [0, 1, 2, 3, 4] [0, 1, 2] rfl rfl rfl rfl⟩
          · intro L a w hL hv
            rw [allTrue hL] at hv
            obtain ⟨v7, v8, hs⟩ := hv
            refine (show TA _ _ _ 40 ⟨[(6, some (vl1)), (11, some (.pointer (some ⟨b5, 0, none⟩))), (12, some (.pointer (some ⟨b6, 0, none⟩))), (19, some (v4)), (20, some (vI readta1.2)), (73, some (vB ((bytes2 == bytes3) == (ap0 == b)))), (80, some (vB (packed2 == packed3))), (83, some (vB (pp2 == qp3)))], [some (cellsR b5 49 [vU32 u.ID, vU32 u.Len]), some (cellsR b6 52 [vU16 vp5.Off, vU16 vp5.Flags]), some (rowS DescS v4 readta1.1)], [Fact.sl DescS vl1 l]⟩ from ?_) a w (hs.wkS [6, 11, 12, 19, 20, 73, 80, 83] [2, 3, 4] [0] rfl rfl rfl rfl)
            clear hs hL
            refine TA_yes htb (by kernel_rfl) rfl rfl rfl (congrArg (fun b => some (Value.bool b)) hg7) (OpT_bin rfl rfl rfl rfl rfl (bin_eql_b (a := packed2 == packed3) (b := pp2 == qp3) Try.underlying4)) ?_
            rintro _ rfl
            refine TA_step htb (by kernel_rfl) rfl rfl (OpT_pickT rfl rfl rfl (congrArg (fun b => some (Value.bool b)) hg7) rfl) ?_
            refine TA_step htb (by kernel_rfl) rfl rfl (OpT_move rfl rfl rfl rfl) ?_
            refine TA_wkS (fr' := [(6, some (vl1)), (11, some (.pointer (some ⟨b5, 0, none⟩))), (12, some (.pointer (some ⟨b6, 0, none⟩))), (19, some (v4)), (20, some (vI readta1.2)), (86, some (vB ((packed2 == packed3) == (pp2 == qp3))))]) (own' := [some (cellsR b5 49 [vU32 u.ID, vU32 u.Len]), some (cellsR b6 52 [vU16 vp5.Off, vU16 vp5.Flags]), some (rowS DescS v4 readta1.1)]) (shr' := [Fact.sl DescS vl1 l]) [6, 11, 12, 19, 20, 86] [0, 1, 2] [0] rfl rfl rfl rfl ?_
            obtain ⟨hg8, h⟩ := chk_e h
            obtain ⟨usedwo1, hx12, h⟩ := ob_e h
            obtain ⟨readus1, hx13, h⟩ := ob_e h
            refine TA_seg (lo := 43) (hi := 47) htb rfl rfl (by kernel_rfl) (fun c L a w => Sat c ⟨[(6, some (vl1)), (11, some (.pointer (some ⟨b5, 0, none⟩))), (12, some (.pointer (some ⟨b6, 0, none⟩))), (19, some (v4)), (20, some (vI readta1.2)), (86, some (vB ((packed2 == packed3) == (pp2 == qp3)))), (87, bif L 43 then some (.agg #[vU32 u.ID, vU32 u.Len]) else none), (88, bif L 44 then some (vU64 usedwo1) else none), (89, bif L 45 then some (.agg #[vU32 readus1.ID, vU32 readus1.Len]) else none), (90, bif L 46 then some (.agg #[vU32 u.ID, vU32 u.Len]) else none)], [(some (cellsR b5 49 [vU32 u.ID, vU32 u.Len]) : Option Res), (some (cellsR b6 52 [vU16 vp5.Off, vU16 vp5.Flags]) : Option Res), (some (rowS DescS v4 readta1.1) : Option Res)], [Fact.sl DescS vl1 l]⟩ a w) [([], [44, 45]), ([43], [45]), ([43, 44], []), ([], [])] rfl (by kernel_rfl) ?_ (steps_cons ?_ (steps_cons ?_ (steps_cons ?_ (steps_cons ?_ (steps_nil))))) ?_
            · intro a w hs
              exact hs.startF [87, 88, 89, 90] [0, 1, 2] [0] rfl rfl rfl rfl
            · intro L a w hv K Q hK
              have hs := hv
              refine wpOp_yes rfl rfl rfl hs (congrArg (fun b => some (Value.bool b)) hg8) (OpT_loadCA (vs := [vU32 u.ID, vU32 u.Len]) rfl rfl rfl rfl tyF49 (i := 0) rfl rfl rfl) ?_
              rintro _ rfl a' w' hs'
              exact hK a' w' (hs'.putF (i := 6) rfl [0, 1, 2] [0] rfl rfl rfl rfl)
            · intro L a w hv K Q hK
              have hs := hv
              refine wpOp_yes rfl rfl rfl hs (congrArg (fun b => some (Value.bool b)) hg8) (OpT_call (w_desc_UsedWord hx12) [] [] rfl rfl rfl rfl rfl callee19 rfl rfl rfl rfl) ?_
              rintro _ ⟨_, _, _, ⟨rfl, rfl, rfl⟩, rfl⟩ a' w' hs'
              exact hK a' w' (hs'.putF (i := 7) rfl [0, 1, 2] [0] rfl rfl rfl rfl)
            · intro L a w hv K Q hK
              have hs := hv
              refine wpOp_yes rfl rfl rfl hs (congrArg (fun b => some (Value.bool b)) hg8) (OpT_call (w_desc_ReadUsed hx13) [] [] rfl rfl rfl rfl rfl callee21 rfl rfl rfl rfl) ?_
              rintro _ ⟨_, _, _, ⟨rfl, rfl, rfl⟩, rfl⟩ a' w' hs'
              exact hK a' w' (hs'.putF (i := 8) rfl [0, 1, 2] [0] rfl rfl rfl rfl)
            · intro L a w hv K Q hK
              have hs := hv
              refine wpOp_yes rfl rfl rfl hs (congrArg (fun b => some (Value.bool b)) hg8) (OpT_loadCA (vs := [vU32 u.ID, vU32 u.Len]) rfl rfl rfl rfl tyF49 (i := 0) rfl rfl rfl) ?_
              rintro _ rfl a' w' hs'
              exact hK a' w' (hs'.putF (i := 9) rfl [0, 1, 2] [0] rfl rfl rfl rfl)
            · intro L a w hL hv
              rw [allTrue hL] at hv
              have hs := hv
              refine (show TA _ _ _ 47 ⟨[(6, some (vl1)), (12, some (.pointer (some ⟨b6, 0, none⟩))), (19, some (v4)), (20, some (vI readta1.2)), (86, some (vB ((packed2 == packed3) == (pp2 == qp3)))), (89, some (.agg #[vU32 readus1.ID, vU32 readus1.Len])), (90, some (.agg #[vU32 u.ID, vU32 u.Len]))], [some (cellsR b6 52 [vU16 vp5.Off, vU16 vp5.Flags]), some (rowS DescS v4 readta1.1)], [Fact.sl DescS vl1 l]⟩ from ?_) a w (hs.wkS [6, 12, 19, 20, 86, 89, 90] [1, 2] [0] rfl rfl rfl rfl)
              clear hs hL
              refine TA_yes htb (by kernel_rfl) rfl rfl rfl (congrArg (fun b => some (Value.bool b)) hg8) (OpT_bin rfl rfl rfl rfl rfl (eqT49_eql readus1 u)) ?_
              rintro _ rfl
              refine TA_step htb (by kernel_rfl) rfl rfl (OpT_pickT rfl rfl rfl (congrArg (fun b => some (Value.bool b)) hg8) rfl) ?_
              refine TA_step htb (by kernel_rfl) rfl rfl (OpT_move rfl rfl rfl rfl) ?_
              refine TA_wkS (fr' := [(6, some (vl1)), (12, some (.pointer (some ⟨b6, 0, none⟩))), (19, some (v4)), (20, some (vI readta1.2)), (93, some (vB (readus1 == u)))]) (own' := [some (cellsR b6 52 [vU16 vp5.Off, vU16 vp5.Flags]), some (rowS DescS v4 readta1.1)]) (shr' := [Fact.sl DescS vl1 l]) [6, 12, 19, 20, 93] [0, 1] [0] rfl rfl rfl rfl ?_
              obtain ⟨hg9, h⟩ := chk_e h
              obtain ⟨eventw1, hx14, h⟩ := ob_e h
              obtain ⟨readev1, hx15, h⟩ := ob_e h
              refine TA_seg (lo := 50) (hi := 54) htb rfl rfl (by kernel_rfl) (fun c L a w => Sat c ⟨[(6, some (vl1)), (12, some (.pointer (some ⟨b6, 0, none⟩))), (19, some (v4)), (20, some (vI readta1.2)), (93, some (vB (readus1 == u))), (94, bif L 50 then some (.agg #[vU16 vp5.Off, vU16 vp5.Flags]) else none), (95, bif L 51 then some (vU64 eventw1) else none), (96, bif L 52 then some (.agg #[vU16 readev1.Off, vU16 readev1.Flags]) else none), (97, bif L 53 then some (.agg #[vU16 vp5.Off, vU16 vp5.Flags]) else none)], [(some (cellsR b6 52 [vU16 vp5.Off, vU16 vp5.Flags]) : Option Res), (some (rowS DescS v4 readta1.1) : Option Res)], [Fact.sl DescS vl1 l]⟩ a w) [([], [51, 52]), ([50], [52]), ([50, 51], []), ([], [])] rfl (by kernel_rfl) ?_ (steps_cons ?_ (steps_cons ?_ (steps_cons ?_ (steps_cons ?_ (steps_nil))))) ?_
              · intro a w hs
                exact hs.startF [94, 95, 96, 97] [0, 1] [0] rfl rfl rfl rfl
              · intro L a w hv K Q hK
                have hs := hv
                refine wpOp_yes rfl rfl rfl hs (congrArg (fun b => some (Value.bool b)) hg9) (OpT_loadCA (vs := [vU16 vp5.Off, vU16 vp5.Flags]) rfl rfl rfl rfl tyF52 (i := 0) rfl rfl rfl) ?_
                rintro _ rfl a' w' hs'
                exact hK a' w' (hs'.putF (i := 5) rfl [0, 1] [0] rfl rfl rfl rfl)
              · intro L a w hv K Q hK
                have hs := hv
                refine wpOp_yes rfl rfl rfl hs (congrArg (fun b => some (Value.bool b)) hg9) (OpT_call (w_desc_EventWord hx14) [] [] rfl rfl rfl rfl rfl callee20 rfl rfl rfl rfl) ?_
                rintro _ ⟨_, _, _, ⟨rfl, rfl, rfl⟩, rfl⟩ a' w' hs'
                exact hK a' w' (hs'.putF (i := 6) rfl [0, 1] [0] rfl rfl rfl rfl)
              · intro L a w hv K Q hK
                have hs := hv
                refine wpOp_yes rfl rfl rfl hs (congrArg (fun b => some (Value.bool b)) hg9) (OpT_call (w_desc_ReadEvent hx15) [] [] rfl rfl rfl rfl rfl callee22 rfl rfl rfl rfl) ?_
                rintro _ ⟨_, _, _, ⟨rfl, rfl, rfl⟩, rfl⟩ a' w' hs'
                exact hK a' w' (hs'.putF (i := 7) rfl [0, 1] [0] rfl rfl rfl rfl)
              · intro L a w hv K Q hK
                have hs := hv
                refine wpOp_yes rfl rfl rfl hs (congrArg (fun b => some (Value.bool b)) hg9) (OpT_loadCA (vs := [vU16 vp5.Off, vU16 vp5.Flags]) rfl rfl rfl rfl tyF52 (i := 0) rfl rfl rfl) ?_
                rintro _ rfl a' w' hs'
                exact hK a' w' (hs'.putF (i := 8) rfl [0, 1] [0] rfl rfl rfl rfl)
              · intro L a w hL hv
                rw [allTrue hL] at hv
                have hs := hv
                refine (show TA _ _ _ 54 ⟨[(6, some (vl1)), (12, some (.pointer (some ⟨b6, 0, none⟩))), (19, some (v4)), (20, some (vI readta1.2)), (93, some (vB (readus1 == u))), (96, some (.agg #[vU16 readev1.Off, vU16 readev1.Flags])), (97, some (.agg #[vU16 vp5.Off, vU16 vp5.Flags]))], [some (cellsR b6 52 [vU16 vp5.Off, vU16 vp5.Flags]), some (rowS DescS v4 readta1.1)], [Fact.sl DescS vl1 l]⟩ from ?_) a w (hs.wkS [6, 12, 19, 20, 93, 96, 97] [0, 1] [0] rfl rfl rfl rfl)
                clear hs hL
                refine TA_yes htb (by kernel_rfl) rfl rfl rfl (congrArg (fun b => some (Value.bool b)) hg9) (OpT_bin rfl rfl rfl rfl rfl (eqT52_eql readev1 vp5)) ?_
                rintro _ rfl
                refine TA_step htb (by kernel_rfl) rfl rfl (OpT_pickT rfl rfl rfl (congrArg (fun b => some (Value.bool b)) hg9) rfl) ?_
                refine TA_step htb (by kernel_rfl) rfl rfl (OpT_move rfl rfl rfl rfl) ?_
                obtain ⟨hg10, h⟩ := chk_e h
                refine TA_yes htb (by kernel_rfl) rfl rfl rfl (congrArg (fun b => some (Value.bool b)) hg10) (OpT_loadCA (vs := [vU16 vp5.Off, vU16 vp5.Flags]) rfl rfl rfl rfl tyF52 (i := 0) rfl rfl rfl) ?_
                rintro _ rfl
                obtain ⟨eventw2, hx16, h⟩ := ob_e h
                refine TA_yes htb (by kernel_rfl) rfl rfl rfl (congrArg (fun b => some (Value.bool b)) hg10) (OpT_call (w_desc_EventWord hx16) [] [] rfl rfl rfl rfl rfl callee20 rfl rfl rfl rfl) ?_
                rintro _ ⟨_, _, _, ⟨rfl, rfl, rfl⟩, rfl⟩
                refine TA_yes htb (by kernel_rfl) rfl rfl rfl (congrArg (fun b => some (Value.bool b)) hg10) (OpT_bin rfl rfl rfl rfl rfl (bin_lss_u64 (a := eventw2) (b := (4294967296 : UInt64)))) ?_
                rintro _ rfl
                refine TA_wkS (fr' := [(6, some (vl1)), (19, some (v4)), (20, some (vI readta1.2)), (100, some (vB (readev1 == vp5))), (103, some (vB (decide (eventw2 < (4294967296 : UInt64)))))]) (own' := [some (rowS DescS v4 readta1.1)]) (shr' := [Fact.sl DescS vl1 l]) [6, 19, 20, 100, 103] [1] [0] rfl rfl rfl rfl ?_
                refine TA_step htb (by kernel_rfl) rfl rfl (OpT_pickT rfl rfl rfl (congrArg (fun b => some (Value.bool b)) hg10) rfl) ?_
                refine TA_step htb (by kernel_rfl) rfl rfl (OpT_move rfl rfl rfl rfl) ?_
                obtain ⟨hg11, h⟩ := chk_e h
                refine TA_yes htb (by kernel_rfl) rfl rfl rfl (congrArg (fun b => some (Value.bool b)) hg11) (OpT_move rfl rfl rfl rfl) ?_
                rintro _ rfl
                refine TA_yes htb (by kernel_rfl) rfl rfl rfl (congrArg (fun b => some (Value.bool b)) hg11) (OpT_bin rfl rfl rfl rfl rfl (bin_eql_i (a := readta1.2) (b := (0 : Int)))) ?_
                rintro _ rfl
                refine TA_step htb (by kernel_rfl) rfl rfl (OpT_pickT rfl rfl rfl (congrArg (fun b => some (Value.bool b)) hg11) rfl) ?_
                refine TA_step htb (by kernel_rfl) rfl rfl (OpT_move rfl rfl rfl rfl) ?_
                refine TA_wkS (fr' := [(6, some (vl1)), (19, some (v4)), (109, some (vB (readta1.2 == (0 : Int))))]) (own' := [some (rowS DescS v4 readta1.1)]) (shr' := [Fact.sl DescS vl1 l]) [6, 19, 109] [0] [0] rfl rfl rfl rfl ?_
                obtain ⟨hg12, h⟩ := chk_e h
                refine TA_seg (lo := 66) (hi := 68) htb rfl rfl (by kernel_rfl) (fun c L a w => Sat c ⟨[(6, some (vl1)), (19, some (v4)), (109, some (vB (readta1.2 == (0 : Int)))), (110, bif L 66 then some (v4) else none), (111, bif L 67 then some (vl1) else none)], [(some (rowS DescS v4 readta1.1) : Option Res)], [Fact.sl DescS vl1 l]⟩ a w) [([], []), ([], [])] rfl (by kernel_rfl) ?_ (steps_cons ?_ (steps_cons ?_ (steps_nil))) ?_
                · intro a w hs
                  exact hs.startF [110, 111] [0] [0] rfl rfl rfl rfl
                · intro L a w hv K Q hK
                  have hs := hv
                  refine wpOp_yes rfl rfl rfl hs (congrArg (fun b => some (Value.bool b)) hg12) (OpT_move rfl rfl rfl rfl) ?_
                  rintro _ rfl a' w' hs'
                  exact hK a' w' (hs'.putF (i := 3) rfl [0] [0] rfl rfl rfl rfl)
                · intro L a w hv K Q hK
                  have hs := hv
                  refine wpOp_yes rfl rfl rfl hs (congrArg (fun b => some (Value.bool b)) hg12) (OpT_move rfl rfl rfl rfl) ?_
                  rintro _ rfl a' w' hs'
                  exact hK a' w' (hs'.putF (i := 4) rfl [0] [0] rfl rfl rfl rfl)
                · intro L a w hL hv
                  rw [allTrue hL] at hv
                  have hs := hv
                  refine (show TA _ _ _ 68 ⟨[(6, some (vl1)), (109, some (vB (readta1.2 == (0 : Int)))), (110, some (v4)), (111, some (vl1))], [some (rowS DescS v4 readta1.1)], [Fact.sl DescS vl1 l]⟩ from ?_) a w (hs.wkS [6, 109, 110, 111] [0] [0] rfl rfl rfl rfl)
                  clear hs hL
                  refine TA_retire (i := 0) rfl ?_
                  obtain ⟨samede1, hx17, h⟩ := ob_e h
                  refine TA_yes htb (by kernel_rfl) rfl rfl rfl (congrArg (fun b => some (Value.bool b)) hg12) (OpT_call (w_kit_SameDescs hx17) [] [1, 0] rfl rfl rfl rfl rfl callee23 rfl rfl rfl rfl) ?_
                  rintro _ ⟨_, _, _, ⟨rfl, rfl, rfl⟩, rfl⟩
                  refine TA_step htb (by kernel_rfl) rfl rfl (OpT_pickT rfl rfl rfl (congrArg (fun b => some (Value.bool b)) hg12) rfl) ?_
                  refine TA_step htb (by kernel_rfl) rfl rfl (OpT_move rfl rfl rfl rfl) ?_
                  refine TA_wkS (fr' := [(6, some (vl1)), (114, some (vB samede1))]) (own' := []) (shr' := [Fact.sl DescS vl1 l]) [6, 114] [] [0] rfl rfl rfl rfl ?_
                  obtain ⟨hg13, h⟩ := chk_e h
                  obtain ⟨table2, hx18, h⟩ := ob_e h
                  refine TA_seg (lo := 71) (hi := 77) htb rfl rfl (by kernel_rfl) (fun c L a w => ∃ (v9 : Value), Sat c ⟨[(6, some (vl1)), (114, some (vB samede1)), (115, bif L 71 then some (vl1) else none), (116, bif L 72 then some (v9) else none), (117, bif L 73 then some (vI (len table2)) else none), (118, bif L 74 then some (vl1) else none), (119, bif L 75 then some (vI (len l)) else none), (120, bif L 76 then some (vI (wi ((16 : Int) * (len l)))) else none)], [], [Fact.sl DescS vl1 l, (bif L 72 then Fact.sl u8S v9 table2 else Fact.tt)]⟩ a w) [([], [72, 73]), ([71], [73]), ([71, 72], []), ([], [75, 76]), ([74], [76]), ([74, 75], [])] rfl (by kernel_rfl) ?_ (steps_cons ?_ (steps_cons ?_ (steps_cons ?_ (steps_cons ?_ (steps_cons ?_ (steps_cons ?_ (steps_nil))))))) ?_
                  · intro a w hs
                    exact ⟨undef, hs.startF [115, 116, 117, 118, 119, 120] [] [0, 1] rfl rfl rfl rfl⟩
                  · intro L a w hv K Q hK
                    obtain ⟨v9, hs⟩ := hv
                    refine wpOp_yes rfl rfl rfl hs (congrArg (fun b => some (Value.bool b)) hg13) (OpT_move rfl rfl rfl rfl) ?_
                    rintro _ rfl a' w' hs'
                    exact hK a' w' ⟨v9, hs'.putF (i := 2) rfl [] [0, 1] rfl rfl rfl rfl⟩
                  · intro L a w hv K Q hK
                    obtain ⟨v9, hs⟩ := hv
                    refine wpOp_yes rfl rfl rfl hs (congrArg (fun b => some (Value.bool b)) hg13) (OpT_call (ws_desc_Table hx18) [] [0] rfl rfl rfl rfl rfl callee17 rfl rfl rfl rfl) ?_
                    rintro _ ⟨v9', _, _, ⟨_, rfl, rfl, rfl⟩, rfl⟩ a' w' hs'
                    exact hK a' w' ⟨v9', hs'.putF (i := 3) rfl [] [0, 2] rfl rfl rfl rfl⟩
                  · intro L a w hv K Q hK
                    obtain ⟨v9, hs⟩ := hv
                    refine wpOp_yes rfl rfl rfl hs (congrArg (fun b => some (Value.bool b)) hg13) (OpT_lenS rfl rfl rfl rfl Try.underlying34 (i := 1) rfl) ?_
                    rintro _ rfl a' w' hs'
                    exact hK a' w' ⟨v9, hs'.putF (i := 4) rfl [] [0, 1] rfl rfl rfl rfl⟩
                  · intro L a w hv K Q hK
                    obtain ⟨v9, hs⟩ := hv
                    refine wpOp_yes rfl rfl rfl hs (congrArg (fun b => some (Value.bool b)) hg13) (OpT_move rfl rfl rfl rfl) ?_
                    rintro _ rfl a' w' hs'
                    exact hK a' w' ⟨v9, hs'.putF (i := 5) rfl [] [0, 1] rfl rfl rfl rfl⟩
                  · intro L a w hv K Q hK
                    obtain ⟨v9, hs⟩ := hv
                    refine wpOp_yes rfl rfl rfl hs (congrArg (fun b => some (Value.bool b)) hg13) (OpT_lenS rfl rfl rfl rfl Try.underlying32 (i := 0) rfl) ?_
                    rintro _ rfl a' w' hs'
                    exact hK a' w' ⟨v9, hs'.putF (i := 6) rfl [] [0, 1] rfl rfl rfl rfl⟩
                  · intro L a w hv K Q hK
                    obtain ⟨v9, hs⟩ := hv
                    refine wpOp_yes rfl rfl rfl hs (congrArg (fun b => some (Value.bool b)) hg13) (OpT_bin rfl rfl rfl rfl rfl (bin_mul_i (a := (16 : Int)) (b := len l))) ?_
                    rintro _ rfl a' w' hs'
                    exact hK a' w' ⟨v9, hs'.putF (i := 7) rfl [] [0, 1] rfl rfl rfl rfl⟩
                  · intro L a w hL hv
                    rw [allTrue hL] at hv
                    obtain ⟨v9, hs⟩ := hv
                    refine (show TA _ _ _ 77 ⟨[(114, some (vB samede1)), (117, some (vI (len table2))), (120, some (vI (wi ((16 : Int) * (len l)))))], [], []⟩ from ?_) a w (hs.wkS [114, 117, 120] [] [] rfl rfl rfl rfl)
                    clear hs hL
                    refine TA_yes htb (by kernel_rfl) rfl rfl rfl (congrArg (fun b => some (Value.bool b)) hg13) (OpT_bin rfl rfl rfl rfl rfl (bin_eql_i (a := len table2) (b := wi ((16 : Int) * (len l))))) ?_
                    rintro _ rfl
                    refine TA_step htb (by kernel_rfl) rfl rfl (OpT_pickT rfl rfl rfl (congrArg (fun b => some (Value.bool b)) hg13) rfl) ?_
                    refine TA_step htb (by kernel_rfl) rfl rfl (OpT_assign rfl rfl rfl rfl) ?_
                    refine TA_end rfl ?_
                    refine Tk_wkS (fr' := [(14, some (vB ((len table2) == (wi ((16 : Int) * (len l))))))]) (own' := []) (shr' := []) [14] [] [] rfl rfl rfl rfl ?_
                    obtain ⟨hg14, h⟩ := chk_e h
                    exact Tk_retV rfl (resA (vs := [.bool true]) rfl ⟨(congrArg (fun b => some (Value.bool b)) hg14), trivial⟩) [] [] rfl rfl rfl ⟨rfl, rfl, rfl⟩
end Go.Proofs.Ytamdpkddehhocaa
