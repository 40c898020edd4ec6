/- The functions do what the plain words say: each is walked once. No statement of the seat is proved here; no condition. -/
import Derived.Test.YtecmlfmbmligeaaWa2
namespace Go.Proofs.Ytecmlfmbmligeaa

set_option maxRecDepth 100000 in
set_option maxHeartbeats 4000000 in
theorem w_gmem_Mem_maden0  {r : Bool} (h : gmem_Mem_maden0 = some r) :
  Ctr Try.prog 34 #[.pointer none] [] []
   (fun rv own shr => rv = vB r ∧ own = [] ∧ shr = []) := by
 unfold gmem_Mem_maden0 at h
 refine Ctr.mk (args := [.pointer none]) Try.func34 rfl rfl (fun R0 w0 B => ?_)
 refine Tk_seq ?_
 refine Tk_region ?_
 refine Tops_step rfl (OpT_assign rfl rfl rfl rfl) ?_
 refine Tops_nil ?_
 refine Tk_wkS (fr' := [(0, some (.pointer none))]) (own' := []) (shr' := []) [0] [] [] rfl rfl rfl rfl ?_
 refine Tk_seq ?_
 refine Tk_region ?_
 refine Tops_step rfl (OpT_move rfl rfl rfl rfl) ?_
 refine Tops_step rfl (OpT_ptrNil rfl rfl rfl (.inr rfl) rfl rfl ptrF30) ?_
 refine Tops_step rfl (OpT_move rfl rfl rfl rfl) ?_
 refine Tops_no rfl rfl rfl rfl rfl ?_
 refine Tops_no rfl rfl rfl rfl rfl ?_
 refine Tops_no rfl rfl rfl rfl rfl ?_
 refine Tops_no rfl rfl rfl rfl rfl ?_
 refine Tops_no rfl rfl rfl rfl rfl ?_
 refine Tops_step rfl (OpT_pickF rfl rfl rfl rfl rfl) ?_
 refine Tops_step rfl (OpT_assign rfl rfl rfl rfl) ?_
 refine Tops_nil ?_
 refine Tk_wkS (fr' := [(2, some (vB false))]) (own' := []) (shr' := []) [2] [] [] rfl rfl rfl rfl ?_
 obtain rfl := Option.some.inj h
 exact Tk_retV rfl rfl (resA (vs := [vB false]) rfl ⟨rfl, trivial⟩) [] [] rfl rfl rfl ⟨rfl, rfl, rfl⟩

set_option maxRecDepth 100000 in
set_option maxHeartbeats 4000000 in
theorem w_gmem_Mem_Loadn0 {atp1 : UInt64} {bytes : Int} {r : (UInt64 × Int)} (h : gmem_Mem_Loadn0 atp1 bytes = some r) :
  Ctr Try.prog 16 #[.pointer none, vU64 atp1, vI bytes] [] []
   (fun rv own shr => rv = .tuple #[vU64 r.1, vI r.2] ∧ own = [] ∧ shr = []) := by
 unfold gmem_Mem_Loadn0 at h
 refine Ctr.mk (args := [.pointer none, vU64 atp1, vI bytes]) Try.func16 rfl rfl (fun R0 w0 B => ?_)
 refine Tk_seq ?_
 refine Tk_region ?_
 refine Tops_step rfl (OpT_assign rfl rfl rfl rfl) ?_
 refine Tops_step rfl (OpT_assign rfl rfl rfl rfl) ?_
 refine Tops_nil ?_
 refine Tk_wkS (fr' := [(0, some (.pointer none)), (1, some (vU64 atp1)), (2, some (vI bytes))]) (own' := []) (shr' := []) [0, 1, 2] [] [] rfl rfl rfl rfl ?_
 refine Tk_seq ?_
 refine Tk_seq ?_
 refine Tk_region ?_
 refine Tops_step rfl (OpT_move rfl rfl rfl rfl) ?_
 obtain ⟨made1, hx1, h⟩ := ob_e h
 refine Tops_exP rfl (OpT_call (w_gmem_Mem_maden0 hx1) [] [] rfl rfl rfl rfl rfl callee34 rfl rfl rfl rfl) ?_
 rintro _ ⟨_, _, _, ⟨rfl, rfl, rfl⟩, rfl⟩
 refine Tops_step rfl (OpT_not rfl rfl rfl rfl) ?_
 refine Tops_nil ?_
 refine Tk_wkS (fr' := [(0, some (.pointer none)), (1, some (vU64 atp1)), (2, some (vI bytes)), (13, some (vB (!made1)))]) (own' := []) (shr' := []) [0, 1, 2, 13] [] [] rfl rfl rfl rfl ?_
 refine Tk_condT (congrArg (fun b => some (Value.bool b)) (congrArg (!·) (Option.some.inj (show some false = some made1 from hx1)).symm)) ?_
 refine Tk_seq ?_
 refine Tk_region ?_
 refine Tops_step rfl (OpT_assign rfl rfl rfl rfl) ?_
 refine Tops_step rfl (OpT_assign rfl rfl rfl rfl) ?_
 refine Tops_nil ?_
 refine Tk_wkS (fr' := [(6, some (vU64 (0 : UInt64))), (7, some (vI (1 : Int)))]) (own' := []) (shr' := []) [6, 7] [] [] rfl rfl rfl rfl ?_
 obtain rfl := Option.some.inj h
 exact Tk_retV rfl rfl (resA (vs := [vU64 (0 : UInt64), vI (1 : Int)]) rfl ⟨rfl, rfl, trivial⟩) [] [] rfl rfl rfl ⟨rfl, rfl, rfl⟩

set_option maxRecDepth 100000 in
set_option maxHeartbeats 4000000 in
theorem w_gmem_Mem_Storen0 {atp1 : UInt64} {bytes : Int} {vp3 : UInt64} {r : Int} (h : gmem_Mem_Storen0 atp1 bytes vp3 = some r) :
  Ctr Try.prog 17 #[.pointer none, vU64 atp1, vI bytes, vU64 vp3] [] []
   (fun rv own shr => rv = vI r ∧ own = [] ∧ shr = []) := by
 unfold gmem_Mem_Storen0 at h
 refine Ctr.mk (args := [.pointer none, vU64 atp1, vI bytes, vU64 vp3]) Try.func17 rfl rfl (fun R0 w0 B => ?_)
 refine Tk_seq ?_
 refine Tk_region ?_
 refine Tops_step rfl (OpT_assign rfl rfl rfl rfl) ?_
 refine Tops_nil ?_
 refine Tk_wkS (fr' := [(0, some (.pointer none)), (1, some (vU64 atp1)), (2, some (vI bytes)), (3, some (vU64 vp3))]) (own' := []) (shr' := []) [0, 1, 2, 3] [] [] rfl rfl rfl rfl ?_
 refine Tk_seq ?_
 refine Tk_seq ?_
 refine Tk_region ?_
 refine Tops_step rfl (OpT_move rfl rfl rfl rfl) ?_
 obtain ⟨made1, hx1, h⟩ := ob_e h
 refine Tops_exP rfl (OpT_call (w_gmem_Mem_maden0 hx1) [] [] rfl rfl rfl rfl rfl callee34 rfl rfl rfl rfl) ?_
 rintro _ ⟨_, _, _, ⟨rfl, rfl, rfl⟩, rfl⟩
 refine Tops_step rfl (OpT_not rfl rfl rfl rfl) ?_
 refine Tops_nil ?_
 refine Tk_wkS (fr' := [(0, some (.pointer none)), (1, some (vU64 atp1)), (2, some (vI bytes)), (3, some (vU64 vp3)), (13, some (vB (!made1)))]) (own' := []) (shr' := []) [0, 1, 2, 3, 13] [] [] rfl rfl rfl rfl ?_
 refine Tk_condT (congrArg (fun b => some (Value.bool b)) (congrArg (!·) (Option.some.inj (show some false = some made1 from hx1)).symm)) ?_
 refine Tk_seq ?_
 refine Tk_region ?_
 refine Tops_step rfl (OpT_assign rfl rfl rfl rfl) ?_
 refine Tops_nil ?_
 refine Tk_wkS (fr' := [(8, some (vI (1 : Int)))]) (own' := []) (shr' := []) [8] [] [] rfl rfl rfl rfl ?_
 obtain rfl := Option.some.inj h
 exact Tk_retV rfl rfl (resA (vs := [vI (1 : Int)]) rfl ⟨rfl, trivial⟩) [] [] rfl rfl rfl ⟨rfl, rfl, rfl⟩

set_option maxRecDepth 100000 in
set_option maxHeartbeats 4000000 in
theorem w_gmem_Mem_Readn0 {atp1 : UInt64} {np2 : Int} {r : ((List UInt8) × Int)} (h : gmem_Mem_Readn0 atp1 np2 = some r) :
  Ctr Try.prog 22 #[.pointer none, vU64 atp1, vI np2] [] []
   (fun rv own shr => ∃ (w1 : Value), rv = .tuple #[w1, vI r.2] ∧ own = [(rowS u8S w1 r.1)] ∧ shr = []) := by
 unfold gmem_Mem_Readn0 at h
 refine Ctr.mk (args := [.pointer none, vU64 atp1, vI np2]) Try.func22 rfl rfl (fun R0 w0 B => ?_)
 refine Tk_seq ?_
 refine Tk_region ?_
 refine Tops_step rfl (OpT_assign rfl rfl rfl rfl) ?_
 refine Tops_step rfl (OpT_assign rfl rfl rfl rfl) ?_
 refine Tops_nil ?_
 refine Tk_wkS (fr' := [(0, some (.pointer none)), (1, some (vU64 atp1)), (2, some (vI np2))]) (own' := []) (shr' := []) [0, 1, 2] [] [] rfl rfl rfl rfl ?_
 refine Tk_seq ?_
 refine Tk_seq ?_
 refine Tk_region ?_
 refine Tops_step rfl (OpT_move rfl rfl rfl rfl) ?_
 obtain ⟨made1, hx1, h⟩ := ob_e h
 refine Tops_exP rfl (OpT_call (w_gmem_Mem_maden0 hx1) [] [] rfl rfl rfl rfl rfl callee34 rfl rfl rfl rfl) ?_
 rintro _ ⟨_, _, _, ⟨rfl, rfl, rfl⟩, rfl⟩
 refine Tops_step rfl (OpT_not rfl rfl rfl rfl) ?_
 refine Tops_nil ?_
 refine Tk_wkS (fr' := [(0, some (.pointer none)), (1, some (vU64 atp1)), (2, some (vI np2)), (11, some (vB (!made1)))]) (own' := []) (shr' := []) [0, 1, 2, 11] [] [] rfl rfl rfl rfl ?_
 refine Tk_condT (congrArg (fun b => some (Value.bool b)) (congrArg (!·) (Option.some.inj (show some false = some made1 from hx1)).symm)) ?_
 refine Tk_seq ?_
 refine Tk_region ?_
 refine Tops_step rfl (OpT_assign rfl rfl rfl rfl) ?_
 refine Tops_step rfl (OpT_assign rfl rfl rfl rfl) ?_
 refine Tops_nil ?_
 refine Tk_wkS (fr' := [(6, some (.slice none 0 0)), (7, some (vI (1 : Int)))]) (own' := []) (shr' := []) [6, 7] [] [] rfl rfl rfl rfl ?_
 refine Tk_nilrow u8S ?_
 obtain rfl := Option.some.inj h
 exact Tk_retV rfl rfl (resA (vs := [.slice none 0 0, vI (1 : Int)]) rfl ⟨rfl, rfl, trivial⟩) [0] [] rfl rfl rfl ⟨(.slice none 0 0), rfl, rfl, rfl⟩

set_option maxRecDepth 100000 in
set_option maxHeartbeats 4000000 in
theorem w_gmem_Mem_Writen0 {atp1 : UInt64} {arg2 : List UInt8} {varg21 : Value} {r : Int} (h : gmem_Mem_Writen0 atp1 arg2 = some r) :
  Ctr Try.prog 18 #[.pointer none, vU64 atp1, varg21] [] [Fact.sl u8S varg21 arg2]
   (fun rv own shr => rv = vI r ∧ own = [] ∧ shr = []) := by
 unfold gmem_Mem_Writen0 at h
 refine Ctr.mk (args := [.pointer none, vU64 atp1, varg21]) Try.func18 rfl rfl (fun R0 w0 B => ?_)
 refine Tk_seq ?_
 refine Tk_region ?_
 refine Tops_step rfl (OpT_assign rfl rfl rfl rfl) ?_
 refine Tops_nil ?_
 refine Tk_wkS (fr' := [(0, some (.pointer none)), (1, some (vU64 atp1)), (2, some (varg21))]) (own' := []) (shr' := [Fact.sl u8S varg21 arg2]) [0, 1, 2] [] [0] rfl rfl rfl rfl ?_
 refine Tk_seq ?_
 refine Tk_seq ?_
 refine Tk_region ?_
 refine Tops_step rfl (OpT_move rfl rfl rfl rfl) ?_
 obtain ⟨made1, hx1, h⟩ := ob_e h
 refine Tops_exP rfl (OpT_call (w_gmem_Mem_maden0 hx1) [] [] rfl rfl rfl rfl rfl callee34 rfl rfl rfl rfl) ?_
 rintro _ ⟨_, _, _, ⟨rfl, rfl, rfl⟩, rfl⟩
 refine Tops_step rfl (OpT_not rfl rfl rfl rfl) ?_
 refine Tops_nil ?_
 refine Tk_wkS (fr' := [(0, some (.pointer none)), (1, some (vU64 atp1)), (2, some (varg21)), (10, some (vB (!made1)))]) (own' := []) (shr' := [Fact.sl u8S varg21 arg2]) [0, 1, 2, 10] [] [0] rfl rfl rfl rfl ?_
 refine Tk_condT (congrArg (fun b => some (Value.bool b)) (congrArg (!·) (Option.some.inj (show some false = some made1 from hx1)).symm)) ?_
 refine Tk_seq ?_
 refine Tk_region ?_
 refine Tops_step rfl (OpT_assign rfl rfl rfl rfl) ?_
 refine Tops_nil ?_
 refine Tk_wkS (fr' := [(6, some (vI (1 : Int)))]) (own' := []) (shr' := []) [6] [] [] rfl rfl rfl rfl ?_
 obtain rfl := Option.some.inj h
 exact Tk_retV rfl rfl (resA (vs := [vI (1 : Int)]) rfl ⟨rfl, trivial⟩) [] [] rfl rfl rfl ⟨rfl, rfl, rfl⟩

set_option maxRecDepth 100000 in
set_option maxHeartbeats 4000000 in
theorem w_gmem_Mem_Hasn0 {atp1 : UInt64} {np2 : UInt64} {r : Bool} (h : gmem_Mem_Hasn0 atp1 np2 = some r) :
  Ctr Try.prog 20 #[.pointer none, vU64 atp1, vU64 np2] [] []
   (fun rv own shr => rv = vB r ∧ own = [] ∧ shr = []) := by
 unfold gmem_Mem_Hasn0 at h
 refine Ctr.mk (args := [.pointer none, vU64 atp1, vU64 np2]) Try.func20 rfl rfl (fun R0 w0 B => ?_)
 refine Tk_seq ?_
 refine Tk_region ?_
 refine Tops_step rfl (OpT_assign rfl rfl rfl rfl) ?_
 refine Tops_nil ?_
 refine Tk_wkS (fr' := [(0, some (.pointer none)), (1, some (vU64 atp1)), (2, some (vU64 np2))]) (own' := []) (shr' := []) [0, 1, 2] [] [] rfl rfl rfl rfl ?_
 refine Tk_seq ?_
 refine Tk_region ?_
 refine Tops_step rfl (OpT_move rfl rfl rfl rfl) ?_
 obtain ⟨made1, hx1, h⟩ := ob_e h
 refine Tops_exP rfl (OpT_call (w_gmem_Mem_maden0 hx1) [] [] rfl rfl rfl rfl rfl callee34 rfl rfl rfl rfl) ?_
 rintro _ ⟨_, _, _, ⟨rfl, rfl, rfl⟩, rfl⟩
 refine Tops_step rfl (OpT_move rfl rfl rfl rfl) ?_
 refine Tops_no rfl rfl (congrArg (fun b => some (Value.bool b)) (Option.some.inj (show some false = some made1 from hx1)).symm) rfl rfl ?_
 refine Tops_no rfl rfl (congrArg (fun b => some (Value.bool b)) (Option.some.inj (show some false = some made1 from hx1)).symm) rfl rfl ?_
 refine Tops_no rfl rfl (congrArg (fun b => some (Value.bool b)) (Option.some.inj (show some false = some made1 from hx1)).symm) rfl rfl ?_
 refine Tops_no rfl rfl (congrArg (fun b => some (Value.bool b)) (Option.some.inj (show some false = some made1 from hx1)).symm) rfl rfl ?_
 refine Tops_no rfl rfl (congrArg (fun b => some (Value.bool b)) (Option.some.inj (show some false = some made1 from hx1)).symm) rfl rfl ?_
 refine Tops_step rfl (OpT_pickF rfl rfl rfl (congrArg (fun b => some (Value.bool b)) (Option.some.inj (show some false = some made1 from hx1)).symm) rfl) ?_
 refine Tops_step rfl (OpT_assign rfl rfl rfl rfl) ?_
 refine Tops_nil ?_
 refine Tk_wkS (fr' := [(6, some (vB false))]) (own' := []) (shr' := []) [6] [] [] rfl rfl rfl rfl ?_
 obtain rfl := Option.some.inj h
 exact Tk_retV rfl rfl (resA (vs := [vB false]) rfl ⟨rfl, trivial⟩) [] [] rfl rfl rfl ⟨rfl, rfl, rfl⟩

set_option maxRecDepth 100000 in
set_option maxHeartbeats 4000000 in
theorem w_gmem_Mem_Imagen0  {r : (List UInt8)} (h : gmem_Mem_Imagen0 = some r) :
  Ctr Try.prog 21 #[.pointer none] [] []
   (fun rv own shr => ∃ (w1 : Value), rv = w1 ∧ own = [(rowS u8S w1 r)] ∧ shr = []) := by
 unfold gmem_Mem_Imagen0 at h
 refine Ctr.mk (args := [.pointer none]) Try.func21 rfl rfl (fun R0 w0 B => ?_)
 refine Tk_seq ?_
 refine Tk_region ?_
 refine Tops_step rfl (OpT_assign rfl rfl rfl rfl) ?_
 refine Tops_nil ?_
 refine Tk_wkS (fr' := [(0, some (.pointer none))]) (own' := []) (shr' := []) [0] [] [] rfl rfl rfl rfl ?_
 refine Tk_seq ?_
 refine Tk_seq ?_
 refine Tk_region ?_
 refine Tops_step rfl (OpT_move rfl rfl rfl rfl) ?_
 obtain ⟨made1, hx1, h⟩ := ob_e h
 refine Tops_exP rfl (OpT_call (w_gmem_Mem_maden0 hx1) [] [] rfl rfl rfl rfl rfl callee34 rfl rfl rfl rfl) ?_
 rintro _ ⟨_, _, _, ⟨rfl, rfl, rfl⟩, rfl⟩
 refine Tops_step rfl (OpT_not rfl rfl rfl rfl) ?_
 refine Tops_nil ?_
 refine Tk_wkS (fr' := [(0, some (.pointer none)), (5, some (vB (!made1)))]) (own' := []) (shr' := []) [0, 5] [] [] rfl rfl rfl rfl ?_
 refine Tk_condT (congrArg (fun b => some (Value.bool b)) (congrArg (!·) (Option.some.inj (show some false = some made1 from hx1)).symm)) ?_
 refine Tk_seq ?_
 refine Tk_region ?_
 refine Tops_step rfl (OpT_assign rfl rfl rfl rfl) ?_
 refine Tops_nil ?_
 refine Tk_wkS (fr' := [(2, some (.slice none 0 0))]) (own' := []) (shr' := []) [2] [] [] rfl rfl rfl rfl ?_
 refine Tk_nilrow u8S ?_
 obtain rfl := Option.some.inj h
 exact Tk_retV rfl rfl (resA (vs := [.slice none 0 0]) rfl ⟨rfl, trivial⟩) [0] [] rfl rfl rfl ⟨(.slice none 0 0), rfl, rfl, rfl⟩

set_option maxRecDepth 100000 in
set_option maxHeartbeats 4000000 in
theorem w_gmem_Mem_Regionsn0  {r : (List Region)} (h : gmem_Mem_Regionsn0 = some r) :
  Ctr Try.prog 31 #[.pointer none] [] []
   (fun rv own shr => ∃ (w1 : Value), rv = w1 ∧ own = [(rowS RegionS w1 r)] ∧ shr = []) := by
 unfold gmem_Mem_Regionsn0 at h
 refine Ctr.mk (args := [.pointer none]) Try.func31 rfl rfl (fun R0 w0 B => ?_)
 refine Tk_seq ?_
 refine Tk_region ?_
 refine Tops_step rfl (OpT_assign rfl rfl rfl rfl) ?_
 refine Tops_nil ?_
 refine Tk_wkS (fr' := [(0, some (.pointer none))]) (own' := []) (shr' := []) [0] [] [] rfl rfl rfl rfl ?_
 refine Tk_seq ?_
 refine Tk_seq ?_
 refine Tk_region ?_
 refine Tops_step rfl (OpT_move rfl rfl rfl rfl) ?_
 obtain ⟨made1, hx1, h⟩ := ob_e h
 refine Tops_exP rfl (OpT_call (w_gmem_Mem_maden0 hx1) [] [] rfl rfl rfl rfl rfl callee34 rfl rfl rfl rfl) ?_
 rintro _ ⟨_, _, _, ⟨rfl, rfl, rfl⟩, rfl⟩
 refine Tops_step rfl (OpT_not rfl rfl rfl rfl) ?_
 refine Tops_nil ?_
 refine Tk_wkS (fr' := [(0, some (.pointer none)), (5, some (vB (!made1)))]) (own' := []) (shr' := []) [0, 5] [] [] rfl rfl rfl rfl ?_
 refine Tk_condT (congrArg (fun b => some (Value.bool b)) (congrArg (!·) (Option.some.inj (show some false = some made1 from hx1)).symm)) ?_
 refine Tk_seq ?_
 refine Tk_region ?_
 refine Tops_step rfl (OpT_assign rfl rfl rfl rfl) ?_
 refine Tops_nil ?_
 refine Tk_wkS (fr' := [(2, some (.slice none 0 0))]) (own' := []) (shr' := []) [2] [] [] rfl rfl rfl rfl ?_
 refine Tk_nilrow RegionS ?_
 obtain rfl := Option.some.inj h
 exact Tk_retV rfl rfl (resA (vs := [.slice none 0 0]) rfl ⟨rfl, trivial⟩) [0] [] rfl rfl rfl ⟨(.slice none 0 0), rfl, rfl, rfl⟩

end Go.Proofs.Ytecmlfmbmligeaa
