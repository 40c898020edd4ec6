/- The statement BuildTells of the seat: whatever the input, the law returns true and its arguments read as before. No condition. -/
import Derived.Test.YtihcimjfabdafaaRows
import Derived.Test.YtihcimjfabdafaaRd
import Derived.Test.YtihcimjfabdafaaWlBuildTells
import Derived.Test.YtihcimjfabdafaaPuBuildTells
namespace Go.Proofs.Ytihcimjfabdafaa
open Go.ChangeShapes Go.WideShapes Go.ChangeAt Go.RowKit

theorem Try.own : ownKnob Try.prog.godebug = none := by kernel_rfl
theorem Try.laidOut : laidOutB Try.prog = true := by kernel_rfl

set_option maxRecDepth 100000 in
theorem buildTells_lifted (os : Os) (started : os.Started) (H : Type) (enc : TypeId × Value → H) :
    ReturnsInHanded {} Try.checked os 4 .any (Rows.buildTellsSpec.pre6 enc Try.prog Try.f4 Rows.buildTellsRow.domain false) (Rows.buildTellsSpec.post enc Try.prog Try.f4 false true false false) := by
  refine returnsInHanded_of_change (C := Try.checked) Try.own started (by kernel_rfl) Try.func4 (ChangeSpec.witness6 (enc := enc) (C := Try.checked) false ⟨#[], #[.slice none 0 0, .int .i64 0, .int .i64 0, .int .i64 0, .int .i64 0, .bool false], []⟩ 8 (by kernel_rfl) (by kernel_rfl) (by kernel_rfl) (by kernel_rfl)) ?_
  intro W base args ds gs before hval0 hW hcnd _
  have hW2 : DataW.Whole enc Try.prog Try.f4.params.toList Rows.buildTellsSpec.vars false W args.toList ds gs before := hW
  have hval : ∀ (j : Nat) t v, Try.f4.params[j]? = some t → args[j]? = some v → Value.okWide Try.prog W .any base t v := hval0
  obtain ⟨p, q, hA0, _⟩ := hW
  have hA : DataW.TrodAll enc Try.prog W 0 (fun _ => true) true Try.f4.params.toList args.toList ds p := hA0
  clear hA0 hval0 hcnd
  rw [Try.params4] at hA hval
  obtain ⟨vs, rfl, hA⟩ := args_list hA
  obtain ⟨a0, vs, d0, ds, p0, q0, rfl, rfl, rfl, g0, hA⟩ := trodAll_cons hA
  obtain ⟨a1, vs, d1, ds, p1, q1, rfl, rfl, rfl, g1, hA⟩ := trodAll_cons hA
  obtain ⟨a2, vs, d2, ds, p2, q2, rfl, rfl, rfl, g2, hA⟩ := trodAll_cons hA
  obtain ⟨a3, vs, d3, ds, p3, q3, rfl, rfl, rfl, g3, hA⟩ := trodAll_cons hA
  obtain ⟨a4, vs, d4, ds, p4, q4, rfl, rfl, rfl, g4, hA⟩ := trodAll_cons hA
  obtain ⟨a5, vs, d5, ds, p5, q5, rfl, rfl, rfl, g5, hA⟩ := trodAll_cons hA
  obtain ⟨rfl, rfl, rfl⟩ := trodAll_nil hA
  obtain ⟨l, vl1, e0, s0⟩ := open_one rdT27 (noagg_slice Try.underlying27) (hval 0 27 a0 rfl rfl) g0
  obtain rfl := (List.cons.inj e0).1
  obtain ⟨size, e1⟩ := open_one rdT3 (noagg_int Try.underlying3) (hval 1 3 a1 rfl rfl) g1
  obtain rfl : a1 = vI size := (List.cons.inj (show [a1] = [vI size] from e1)).1
  obtain ⟨id, e2⟩ := open_one rdT3 (noagg_int Try.underlying3) (hval 2 3 a2 rfl rfl) g2
  obtain rfl : a2 = vI id := (List.cons.inj (show [a2] = [vI id] from e2)).1
  obtain ⟨atp3, e3⟩ := open_one rdT3 (noagg_int Try.underlying3) (hval 3 3 a3 rfl rfl) g3
  obtain rfl : a3 = vI atp3 := (List.cons.inj (show [a3] = [vI atp3] from e3)).1
  obtain ⟨first, e4⟩ := open_one rdT3 (noagg_int Try.underlying3) (hval 4 3 a4 rfl rfl) g4
  obtain rfl : a4 = vI first := (List.cons.inj (show [a4] = [vI first] from e4)).1
  obtain ⟨wrap, e5⟩ := open_one rdT4 (noagg_bool Try.underlying4) (hval 5 4 a5 rfl rfl) g5
  obtain rfl : a5 = vB wrap := (List.cons.inj (show [a5] = [vB wrap] from e5)).1
  refine law_calls Try.laidOut (by kernel_rfl) rfl Try.underlying4 rfl ?_ (w_law09zBuildTells (t_law09zBuildTells l size id atp3 first wrap)) (facts_cons s0 (facts_nil)) hW2
  intro ds h
  rw [Try.params4] at h
  rcases ds with _ | ⟨d0, _ | ⟨d1, _ | ⟨d2, _ | ⟨d3, _ | ⟨d4, _ | ⟨d5, _ | ⟨d6, ds⟩⟩⟩⟩⟩⟩⟩ <;> first | rfl | simp at h
theorem buildTells_holds : Rows.BuildTellsSaid :=
  OpenClaim.holds_of_wide 4 Try.f4 rfl rfl rfl rfl rfl rfl rfl ⟨rfl, rfl, rfl, rfl, rfl⟩ rfl rfl rfl rfl rfl (by kernel_rfl) Try.func4 (by kernel_rfl)
    (of_decide_eq_true (by kernel_rfl)) (by unfold Func.isWrapper; first | (rw [if_pos (by decide +kernel)]; kernel_rfl) | (rw [if_neg (by decide +kernel)]; exact ⟨rfl, rfl⟩))
    (fun os started H enc _ => buildTells_lifted os started H enc)
end Go.Proofs.Ytihcimjfabdafaa
