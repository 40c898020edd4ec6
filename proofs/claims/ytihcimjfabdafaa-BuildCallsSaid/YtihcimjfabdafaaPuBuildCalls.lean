/- The law BuildCalls in plain words: it answers true. No condition. -/
import Derived.Test.YtihcimjfabdafaaPuBuild2
namespace Go.Proofs.Ytihcimjfabdafaa
theorem lives09C : law09zlives = some true := by kernel_rfl
theorem segs09 (l : List Seg) (h : l.length ≤ 1000) : kit_Segs l = some l := by unfold kit_Segs; rw [cFits (by simp; omega)]
theorem t_law09zBuildCalls (ids : List Int) (l : List Seg) (pp2 : Pos) (size : Int) (id : Int) (atp5 : UInt64) (np6 : Int) : law09zBuildCalls ids l pp2 size id atp5 np6 = some true := by
  unfold law09zBuildCalls
  rw [oS lives09C, notT, notF, chkT]
  by_cases h1 : len ids > 100
  · rw [bP h1]
  rw [bN h1]
  by_cases h2 : len l > 100
  · rw [bP h2]
  rw [bN h2]
  simp only [len] at h1 h2
  have hs := segs09 l (by omega)
  have l1 := splitF_len ids l
  have l2 := packedF_len pp2 size id l
  rw [cFits (by simp; omega), oS hs, oS (split_eqB ids l (by omega)), oS (rsplit_eq ids l (by omega)), oS hs, oS (packed_eqB pp2 size id l (by omega)), oS (rpacked_eq pp2 size id l (by omega)), oS (sameP_eq _ (by omega)), notT, notF, chkT, cnE rfl, oS (sameQ_eq _ (by omega)), notT, notF, chkT, cnE rfl]
  rw [oS (stab_eq l), oS (rstab_eq l (by omega)), oS (ptab_eq l), oS (rptab_eq l), cnE rfl, cnE rfl, cnE rfl, cnE rfl]
  rw [oS (one_eqB id atp5 np6), oS (rone_eq id atp5 np6), oS (onep_eqB pp2 size id atp5 np6), oS (ronep_eq pp2 size id atp5 np6), cE rfl, cE rfl, cE rfl, cE rfl]
  rw [oS (needs_eqB l false), oS (rneeds_eqB l false), cE rfl, oS (needs_eqB l true), oS (rneeds_eqB l true), cE rfl]
end Go.Proofs.Ytihcimjfabdafaa
