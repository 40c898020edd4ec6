/- The statement BuildCalls of the seat: whatever the input, the law returns true and its arguments read as before. No condition. -/
import Derived.Test.YtihcimjfabdafaaRows
import Derived.Test.YtihcimjfabdafaaRd
import Derived.Test.YtihcimjfabdafaaWlBuildCalls
import Derived.Test.YtihcimjfabdafaaPuBuildCalls
namespace Go.Proofs.Ytihcimjfabdafaa
open Go.ChangeShapes Go.WideShapes Go.ChangeAt Go.RowKit

theorem Try.own : ownKnob Try.prog.godebug = none := by kernel_rfl
theorem Try.laidOut : laidOutB Try.prog = true := by kernel_rfl

set_option maxRecDepth 100000 in
theorem buildCalls_lifted (os : Os) (started : os.Started) (H : Type) (enc : TypeId × Value → H) :
    ReturnsInHanded {} Try.checked os 5 .any (Rows.buildCallsSpec.pre6 enc Try.prog Try.f5 Rows.buildCallsRow.domain false) (Rows.buildCallsSpec.post enc Try.prog Try.f5 false true false false) := by
  refine returnsInHanded_of_change (C := Try.checked) Try.own started (by kernel_rfl) Try.func5 (ChangeSpec.witness6 (enc := enc) (C := Try.checked) false ⟨#[], #[.slice none 0 0, .slice none 0 0, .agg #[.int .i64 0, .bool false], .int .i64 0, .int .i64 0, .int .u64 0, .int .i64 0], []⟩ 8 (by kernel_rfl) (by kernel_rfl) (by kernel_rfl) (by kernel_rfl)) ?_
  intro W base args ds gs before hval0 hW hcnd _
  have hW2 : DataW.Whole enc Try.prog Try.f5.params.toList Rows.buildCallsSpec.vars false W args.toList ds gs before := hW
  have hval : ∀ (j : Nat) t v, Try.f5.params[j]? = some t → args[j]? = some v → Value.okWide Try.prog W .any base t v := hval0
  obtain ⟨p, q, hA0, _⟩ := hW
  have hA : DataW.TrodAll enc Try.prog W 0 (fun _ => true) true Try.f5.params.toList args.toList ds p := hA0
  clear hA0 hval0 hcnd
  rw [Try.params5] at hA hval
  obtain ⟨vs, rfl, hA⟩ := args_list hA
  obtain ⟨a0, vs, d0, ds, p0, q0, rfl, rfl, rfl, g0, hA⟩ := trodAll_cons hA
  obtain ⟨a1, vs, d1, ds, p1, q1, rfl, rfl, rfl, g1, hA⟩ := trodAll_cons hA
  obtain ⟨a2, vs, d2, ds, p2, q2, rfl, rfl, rfl, g2, hA⟩ := trodAll_cons hA
  obtain ⟨a3, vs, d3, ds, p3, q3, rfl, rfl, rfl, g3, hA⟩ := trodAll_cons hA
  obtain ⟨a4, vs, d4, ds, p4, q4, rfl, rfl, rfl, g4, hA⟩ := trodAll_cons hA
  obtain ⟨a5, vs, d5, ds, p5, q5, rfl, rfl, rfl, g5, hA⟩ := trodAll_cons hA
  obtain ⟨a6, vs, d6, ds, p6, q6, rfl, rfl, rfl, g6, hA⟩ := trodAll_cons hA
  obtain ⟨rfl, rfl, rfl⟩ := trodAll_nil hA
  obtain ⟨ids, vids1, e0, s0⟩ := open_one rdT26 (noagg_slice Try.underlying26) (hval 0 26 a0 rfl rfl) g0
  obtain rfl := (List.cons.inj e0).1
  obtain ⟨l, vl1, e1, s1⟩ := open_one rdT27 (noagg_slice Try.underlying27) (hval 1 27 a1 rfl rfl) g1
  obtain rfl := (List.cons.inj e1).1
  obtain ⟨pp2, cs2, e2, s2⟩ := open_agg rdT33 (agg_struct Try.underlying33 (hval 2 33 a2 rfl rfl)) g2
  obtain rfl : cs2 = [vI pp2.At, vB pp2.Wrap] := s2
  subst e2
  obtain ⟨size, e3⟩ := open_one rdT3 (noagg_int Try.underlying3) (hval 3 3 a3 rfl rfl) g3
  obtain rfl : a3 = vI size := (List.cons.inj (show [a3] = [vI size] from e3)).1
  obtain ⟨id, e4⟩ := open_one rdT3 (noagg_int Try.underlying3) (hval 4 3 a4 rfl rfl) g4
  obtain rfl : a4 = vI id := (List.cons.inj (show [a4] = [vI id] from e4)).1
  obtain ⟨atp5, e5⟩ := open_one rdT34 (noagg_int Try.underlying34) (hval 5 34 a5 rfl rfl) g5
  obtain rfl : a5 = vU64 atp5 := (List.cons.inj (show [a5] = [vU64 atp5] from e5)).1
  obtain ⟨np6, e6⟩ := open_one rdT3 (noagg_int Try.underlying3) (hval 6 3 a6 rfl rfl) g6
  obtain rfl : a6 = vI np6 := (List.cons.inj (show [a6] = [vI np6] from e6)).1
  refine law_calls Try.laidOut (by kernel_rfl) rfl Try.underlying4 rfl ?_ (w_law09zBuildCalls (t_law09zBuildCalls ids l pp2 size id atp5 np6)) (facts_cons s0 (facts_cons s1 (facts_nil))) hW2
  intro ds h
  rw [Try.params5] at h
  rcases ds with _ | ⟨d0, _ | ⟨d1, _ | ⟨d2, _ | ⟨d3, _ | ⟨d4, _ | ⟨d5, _ | ⟨d6, _ | ⟨d7, ds⟩⟩⟩⟩⟩⟩⟩⟩ <;> first | rfl | simp at h
theorem buildCalls_holds : Rows.BuildCallsSaid :=
  OpenClaim.holds_of_wide 5 Try.f5 rfl rfl rfl rfl rfl rfl rfl ⟨rfl, rfl, rfl, rfl, rfl⟩ rfl rfl rfl rfl rfl (by kernel_rfl) Try.func5 (by kernel_rfl)
    (of_decide_eq_true (by kernel_rfl)) (by unfold Func.isWrapper; first | (rw [if_pos (by decide +kernel)]; kernel_rfl) | (rw [if_neg (by decide +kernel)]; exact ⟨rfl, rfl⟩))
    (fun os started H enc _ => buildCalls_lifted os started H enc)
end Go.Proofs.Ytihcimjfabdafaa
