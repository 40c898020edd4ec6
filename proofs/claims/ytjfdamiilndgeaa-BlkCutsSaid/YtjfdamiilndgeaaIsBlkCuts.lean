/- The statement BlkCuts of the seat: whatever the input, the law returns true and its arguments read as before. No condition. -/
import Derived.Test.YtjfdamiilndgeaaRows
import Derived.Test.YtjfdamiilndgeaaRd
import Derived.Test.YtjfdamiilndgeaaWlBlkCuts
import Derived.Test.YtjfdamiilndgeaaGp1
namespace Go.Proofs.Ytjfdamiilndgeaa
open Go.ChangeShapes Go.WideShapes Go.ChangeAt Go.RowKit

theorem Try.own : ownKnob Try.prog.godebug = none := by kernel_rfl
theorem Try.laidOut : laidOutB Try.prog = true := by kernel_rfl

set_option maxRecDepth 100000 in
theorem blkCuts_lifted (os : Os) (started : os.Started) (H : Type) (enc : TypeId × Value → H) :
    ReturnsInHanded {} Try.checked os 6 .any (Rows.blkCutsSpec.pre6 enc Try.prog Try.f6 Rows.blkCutsRow.domain false) (Rows.blkCutsSpec.post enc Try.prog Try.f6 false true false false) := by
  refine returnsInHanded_of_change (C := Try.checked) Try.own started (by kernel_rfl) Try.func6 (ChangeSpec.witness6 (enc := enc) (C := Try.checked) false ⟨#[], #[.agg #[.int .u32 0, .int .u64 0, .slice none 0 0, .int .i64 0, .slice none 0 0], .slice none 0 0, .int .u64 0, .slice none 0 0], []⟩ 8 (by kernel_rfl) (by kernel_rfl) (by kernel_rfl) (by kernel_rfl)) ?_
  intro W base args ds gs before hval0 hW hcnd _
  have hW2 : DataW.Whole enc Try.prog Try.f6.params.toList Rows.blkCutsSpec.vars false W args.toList ds gs before := hW
  have hval : ∀ (j : Nat) t v, Try.f6.params[j]? = some t → args[j]? = some v → Value.okWide Try.prog W .any base t v := hval0
  obtain ⟨p, q, hA0, _⟩ := hW
  have hA : DataW.TrodAll enc Try.prog W 0 (fun _ => true) true Try.f6.params.toList args.toList ds p := hA0
  clear hA0 hval0 hcnd
  rw [Try.params6] at hA hval
  obtain ⟨vs, rfl, hA⟩ := args_list hA
  obtain ⟨a0, vs, d0, ds, p0, q0, rfl, rfl, rfl, g0, hA⟩ := trodAll_cons hA
  obtain ⟨a1, vs, d1, ds, p1, q1, rfl, rfl, rfl, g1, hA⟩ := trodAll_cons hA
  obtain ⟨a2, vs, d2, ds, p2, q2, rfl, rfl, rfl, g2, hA⟩ := trodAll_cons hA
  obtain ⟨a3, vs, d3, ds, p3, q3, rfl, rfl, rfl, g3, hA⟩ := trodAll_cons hA
  obtain ⟨rfl, rfl, rfl⟩ := trodAll_nil hA
  obtain ⟨rp0, cs0, e0, s0⟩ := open_agg rdT35 (agg_struct Try.underlying35 (hval 0 35 a0 rfl rfl)) g0
  obtain ⟨vrp01, vrp02, ee0, s0x0, s0x1⟩ := s0
  obtain rfl : cs0 = [vU32 rp0.Type_, vU64 rp0.Sector, vrp01, vI rp0.Room, vrp02] := ee0
  subst e0
  obtain ⟨image, vimage1, e1, s1⟩ := open_one rdT26 (noagg_slice Try.underlying26) (hval 1 26 a1 rfl rfl) g1
  obtain rfl := (List.cons.inj e1).1
  obtain ⟨feats, e2⟩ := open_one rdT30 (noagg_int Try.underlying30) (hval 2 30 a2 rfl rfl) g2
  obtain rfl : a2 = vU64 feats := (List.cons.inj (show [a2] = [vU64 feats] from e2)).1
  obtain ⟨cuts, vcuts1, e3, s3⟩ := open_one rdT49 (noagg_slice Try.underlying49) (hval 3 49 a3 rfl rfl) g3
  obtain rfl := (List.cons.inj e3).1
  refine law_calls Try.laidOut (by kernel_rfl) rfl Try.underlying4 rfl ?_ (w_law21zBlkCuts (t_law21zBlkCuts rp0 image feats cuts)) (facts_cons s0x0 (facts_cons s0x1 (facts_cons s1 (facts_cons s3 (facts_nil))))) hW2
  intro ds h
  rw [Try.params6] at h
  rcases ds with _ | ⟨d0, _ | ⟨d1, _ | ⟨d2, _ | ⟨d3, _ | ⟨d4, ds⟩⟩⟩⟩⟩ <;> first | rfl | simp at h
theorem blkCuts_holds : Rows.BlkCutsSaid :=
  OpenClaim.holds_of_wide 6 Try.f6 rfl rfl rfl rfl rfl rfl rfl ⟨rfl, rfl, rfl, rfl, rfl⟩ rfl rfl rfl rfl rfl (by kernel_rfl) Try.func6 (by kernel_rfl)
    (of_decide_eq_true (by kernel_rfl)) (by unfold Func.isWrapper; first | (rw [if_pos (by decide +kernel)]; kernel_rfl) | (rw [if_neg (by decide +kernel)]; exact ⟨rfl, rfl⟩))
    (fun os started H enc _ => blkCuts_lifted os started H enc)
end Go.Proofs.Ytjfdamiilndgeaa
