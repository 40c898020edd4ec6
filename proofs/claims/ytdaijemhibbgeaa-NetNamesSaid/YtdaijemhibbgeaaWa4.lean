/- The functions do what the plain words say: each is walked once. No statement of the seat is proved here; no condition. -/
import Derived.Test.YtdaijemhibbgeaaWa3
namespace Go.Proofs.Ytdaijemhibbgeaa
attribute [local irreducible] sub
theorem ws_law25zrooms {l : List Int} {vl1 : Value} {r : (List (List Seg))} (h : law25zrooms l = some r) :
  Ctr Try.prog 10 #[vl1] [] [Fact.sl iS vl1 l]
   (fun rv own shr => ∃ (w1 : Value), rv = w1 ∧ own = [] ∧ shr = [Fact.sl (Shape.slice SegS) w1 r]) :=
 Ctr.sh (w_law25zrooms h) (by rintro w1 _ _ ⟨_, rfl, rfl, rfl⟩; exact ⟨[], _, _, _, _, rfl, w1, rfl, rfl, rfl⟩)

set_option maxRecDepth 100000 in
set_option maxHeartbeats 4000000 in
theorem w_net_Delivern0 {feats : UInt64} {bufs : List (List Seg)} {f : Frame} {vbufs1 : Value} {vf1 : Value} {r : ((List UInt32) × Int)} (h : net_Delivern0 feats bufs f = some r) :
  Ctr Try.prog 15 #[.pointer none, vU64 feats, vbufs1, .agg #[vU8 f.Dst.a0, vU8 f.Dst.a1, vU8 f.Dst.a2, vU8 f.Dst.a3, vU8 f.Dst.a4, vU8 f.Dst.a5, vU8 f.Src.a0, vU8 f.Src.a1, vU8 f.Src.a2, vU8 f.Src.a3, vU8 f.Src.a4, vU8 f.Src.a5, vI f.Vlan, vU16 f.Type_, vf1]] [] [Fact.sl (Shape.slice SegS) vbufs1 bufs, Fact.sl u8S vf1 f.Data]
   (fun rv own shr => ∃ (w1 : Value), rv = .tuple #[w1, vI r.2] ∧ own = [(rowS u32S w1 r.1)] ∧ shr = []) := by
 unfold net_Delivern0 at h
 refine Ctr.mk (args := [.pointer none, vU64 feats, vbufs1, .agg #[vU8 f.Dst.a0, vU8 f.Dst.a1, vU8 f.Dst.a2, vU8 f.Dst.a3, vU8 f.Dst.a4, vU8 f.Dst.a5, vU8 f.Src.a0, vU8 f.Src.a1, vU8 f.Src.a2, vU8 f.Src.a3, vU8 f.Src.a4, vU8 f.Src.a5, vI f.Vlan, vU16 f.Type_, vf1]]) Try.func15 rfl rfl (fun R0 w0 B => ?_)
 refine Tk_seq (Tk_region (Tops_ex rfl (OpT_box rfl rfl rfl rfl) fun b1 => ?_))
 refine Tops_step rfl (OpT_assign rfl rfl rfl rfl) ?_
 refine Tops_step rfl (OpT_assign rfl rfl rfl rfl) ?_
 refine Tops_nil (Tk_wkS (fr' := [(0, some (.pointer none)), (1, some (vU64 feats)), (2, some (vbufs1)), (7, some (.pointer (some ⟨b1, 0, none⟩)))]) (own' := [some (cellsR b1 26 [vU8 f.Dst.a0, vU8 f.Dst.a1, vU8 f.Dst.a2, vU8 f.Dst.a3, vU8 f.Dst.a4, vU8 f.Dst.a5, vU8 f.Src.a0, vU8 f.Src.a1, vU8 f.Src.a2, vU8 f.Src.a3, vU8 f.Src.a4, vU8 f.Src.a5, vI f.Vlan, vU16 f.Type_, vf1])]) (shr' := [Fact.sl (Shape.slice SegS) vbufs1 bufs, Fact.sl u8S vf1 f.Data]) [0, 1, 2, 7] [0] [0, 1] rfl rfl rfl rfl ?_)
 refine Tk_seq (Tk_seq (Tk_region (Tops_step rfl (OpT_move rfl rfl rfl rfl) ?_)))
 refine Tops_step rfl (OpT_ptrNil rfl rfl rfl (.inl rfl) rfl rfl ptrF35) ?_
 refine Tops_nil (Tk_wkS (fr' := [(0, some (.pointer none)), (1, some (vU64 feats)), (2, some (vbufs1)), (7, some (.pointer (some ⟨b1, 0, none⟩))), (24, some (vB true))]) (own' := [some (cellsR b1 26 [vU8 f.Dst.a0, vU8 f.Dst.a1, vU8 f.Dst.a2, vU8 f.Dst.a3, vU8 f.Dst.a4, vU8 f.Dst.a5, vU8 f.Src.a0, vU8 f.Src.a1, vU8 f.Src.a2, vU8 f.Src.a3, vU8 f.Src.a4, vU8 f.Src.a5, vI f.Vlan, vU16 f.Type_, vf1])]) (shr' := [Fact.sl (Shape.slice SegS) vbufs1 bufs, Fact.sl u8S vf1 f.Data]) [0, 1, 2, 7, 24] [0] [0, 1] rfl rfl rfl rfl ?_)
 refine Tk_condT rfl ?_
 refine Tk_seq (Tk_region (Tops_step rfl (OpT_assign rfl rfl rfl rfl) ?_))
 refine Tops_step rfl (OpT_assign rfl rfl rfl rfl) ?_
 refine Tops_nil (Tk_wkS (fr' := [(8, some (.slice none 0 0)), (9, some (vI (1 : Int)))]) (own' := []) (shr' := []) [8, 9] [] [] rfl rfl rfl rfl ?_)
 refine Tk_nilrow u32S ?_
 obtain rfl := Option.some.inj h
 exact Tk_retV rfl rfl (resA (vs := [.slice none 0 0, vI (1 : Int)]) rfl ⟨rfl, rfl, trivial⟩) [0] [] rfl rfl rfl ⟨(.slice none 0 0), rfl, rfl, rfl⟩

set_option maxRecDepth 100000 in
set_option maxHeartbeats 4000000 in
theorem w_net_Sentn0 {feats : UInt64} {l : List Seg} {vl1 : Value} {r : (Frame × Int)} (h : net_Sentn0 feats l = some r) :
  Ctr Try.prog 20 #[.pointer none, vU64 feats, vl1] [] [Fact.sl SegS vl1 l]
   (fun rv own shr => ∃ (w1 : Value), rv = .tuple #[.agg #[vU8 r.1.Dst.a0, vU8 r.1.Dst.a1, vU8 r.1.Dst.a2, vU8 r.1.Dst.a3, vU8 r.1.Dst.a4, vU8 r.1.Dst.a5, vU8 r.1.Src.a0, vU8 r.1.Src.a1, vU8 r.1.Src.a2, vU8 r.1.Src.a3, vU8 r.1.Src.a4, vU8 r.1.Src.a5, vI r.1.Vlan, vU16 r.1.Type_, w1], vI r.2] ∧ own = [(rowS u8S w1 r.1.Data)] ∧ shr = []) := by
 unfold net_Sentn0 at h
 refine Ctr.mk (args := [.pointer none, vU64 feats, vl1]) Try.func20 rfl rfl (fun R0 w0 B => ?_)
 refine Tk_seq (Tk_region (Tops_ex rfl (OpT_alloc rfl rfl rfl tyZ26) fun b1 => ?_))
 refine Tops_step rfl (OpT_assign rfl rfl rfl rfl) ?_
 refine Tops_nil (Tk_wkS (fr' := [(0, some (.pointer none)), (1, some (vU64 feats)), (2, some (vl1)), (6, some (.pointer (some ⟨b1, 0, none⟩)))]) (own' := [some (cellsR b1 26 [vU8 (0 : UInt8), vU8 (0 : UInt8), vU8 (0 : UInt8), vU8 (0 : UInt8), vU8 (0 : UInt8), vU8 (0 : UInt8), vU8 (0 : UInt8), vU8 (0 : UInt8), vU8 (0 : UInt8), vU8 (0 : UInt8), vU8 (0 : UInt8), vU8 (0 : UInt8), vI (0 : Int), vU16 (0 : UInt16), .slice none 0 0])]) (shr' := [Fact.sl SegS vl1 l]) [0, 1, 2, 6] [0] [0] rfl rfl rfl rfl ?_)
 refine Tk_seq (Tk_seq (Tk_region (Tops_step rfl (OpT_move rfl rfl rfl rfl) ?_)))
 refine Tops_step rfl (OpT_ptrNil rfl rfl rfl (.inl rfl) rfl rfl ptrF35) ?_
 refine Tops_nil (Tk_wkS (fr' := [(0, some (.pointer none)), (1, some (vU64 feats)), (2, some (vl1)), (6, some (.pointer (some ⟨b1, 0, none⟩))), (12, some (vB true))]) (own' := [some (cellsR b1 26 [vU8 (0 : UInt8), vU8 (0 : UInt8), vU8 (0 : UInt8), vU8 (0 : UInt8), vU8 (0 : UInt8), vU8 (0 : UInt8), vU8 (0 : UInt8), vU8 (0 : UInt8), vU8 (0 : UInt8), vU8 (0 : UInt8), vU8 (0 : UInt8), vU8 (0 : UInt8), vI (0 : Int), vU16 (0 : UInt16), .slice none 0 0])]) (shr' := [Fact.sl SegS vl1 l]) [0, 1, 2, 6, 12] [0] [0] rfl rfl rfl rfl ?_)
 refine Tk_condT rfl ?_
 refine Tk_seq (Tk_region (Tops_step rfl (OpT_build (v := .agg #[vU8 (0 : UInt8), vU8 (0 : UInt8), vU8 (0 : UInt8), vU8 (0 : UInt8), vU8 (0 : UInt8), vU8 (0 : UInt8), vU8 (0 : UInt8), vU8 (0 : UInt8), vU8 (0 : UInt8), vU8 (0 : UInt8), vU8 (0 : UInt8), vU8 (0 : UInt8), vI (0 : Int), vU16 (0 : UInt16), .slice none 0 0]) rfl rfl rfl rfl (bldV (by kernel_rfl))) ?_))
 refine Tops_step rfl (OpT_storeC (cs' := [vU8 (0 : UInt8), vU8 (0 : UInt8), vU8 (0 : UInt8), vU8 (0 : UInt8), vU8 (0 : UInt8), vU8 (0 : UInt8), vU8 (0 : UInt8), vU8 (0 : UInt8), vU8 (0 : UInt8), vU8 (0 : UInt8), vU8 (0 : UInt8), vU8 (0 : UInt8), vI (0 : Int), vU16 (0 : UInt16), .slice none 0 0]) rfl rfl rfl rfl tyF26 (i := 0) rfl rfl rfl (one_of rfl) rfl) ?_
 refine Tops_step rfl (OpT_assign rfl rfl rfl rfl) ?_
 refine Tops_nil (Tk_wkS (fr' := [(6, some (.pointer (some ⟨b1, 0, none⟩))), (7, some (vI (1 : Int)))]) (own' := [some (cellsR b1 26 [vU8 (0 : UInt8), vU8 (0 : UInt8), vU8 (0 : UInt8), vU8 (0 : UInt8), vU8 (0 : UInt8), vU8 (0 : UInt8), vU8 (0 : UInt8), vU8 (0 : UInt8), vU8 (0 : UInt8), vU8 (0 : UInt8), vU8 (0 : UInt8), vU8 (0 : UInt8), vI (0 : Int), vU16 (0 : UInt16), .slice none 0 0])]) (shr' := []) [6, 7] [0] [] rfl rfl rfl rfl ?_)
 refine Tk_nilrow u8S ?_
 obtain rfl := Option.some.inj h
 exact Tk_retV rfl rfl (resA (vs := [.agg #[vU8 (0 : UInt8), vU8 (0 : UInt8), vU8 (0 : UInt8), vU8 (0 : UInt8), vU8 (0 : UInt8), vU8 (0 : UInt8), vU8 (0 : UInt8), vU8 (0 : UInt8), vU8 (0 : UInt8), vU8 (0 : UInt8), vU8 (0 : UInt8), vU8 (0 : UInt8), vI (0 : Int), vU16 (0 : UInt16), .slice none 0 0], vI (1 : Int)]) rfl ⟨⟨_, 0, _, _, _, rfl, rfl, .inl ⟨tyF26, rfl, rfl⟩⟩, rfl, trivial⟩) [1] [] rfl rfl rfl ⟨(.slice none 0 0), rfl, rfl, rfl⟩
end Go.Proofs.Ytdaijemhibbgeaa
