/- The statement WalkBack of the seat: whatever the input, the law returns true and its arguments read as before. No condition. -/
import Derived.Test.YtlofegfaphijpaaRows
import Derived.Test.YtlofegfaphijpaaRd
import Derived.Test.YtlofegfaphijpaaWlWalkBack
import Derived.Test.YtlofegfaphijpaaGp1
namespace Go.Proofs.Ytlofegfaphijpaa
open Go.ChangeShapes Go.WideShapes Go.ChangeAt Go.RowKit

theorem Try.own : ownKnob Try.prog.godebug = none := by kernel_rfl
theorem Try.laidOut : laidOutB Try.prog = true := by kernel_rfl

set_option maxRecDepth 100000 in
theorem walkBack_lifted (os : Os) (started : os.Started) (H : Type) (enc : TypeId × Value → H) :
    ReturnsInHanded {} Try.checked os 7 .any (Rows.walkBackSpec.pre6 enc Try.prog Try.f7 Rows.walkBackRow.domain false) (Rows.walkBackSpec.post enc Try.prog Try.f7 false true false false) := by
  refine returnsInHanded_of_change (C := Try.checked) Try.own started (by kernel_rfl) Try.func7 (ChangeSpec.witness6 (enc := enc) (C := Try.checked) false ⟨#[], #[.slice none 0 0, .int .i64 0, .int .i64 0, .int .i64 0, .bool false], []⟩ 8 (by kernel_rfl) (by kernel_rfl) (by kernel_rfl) (by kernel_rfl)) ?_
  intro W base args ds gs before hval0 hW hcnd _
  have hW2 : DataW.Whole enc Try.prog Try.f7.params.toList Rows.walkBackSpec.vars false W args.toList ds gs before := hW
  have hval : ∀ (j : Nat) t v, Try.f7.params[j]? = some t → args[j]? = some v → Value.okWide Try.prog W .any base t v := hval0
  obtain ⟨p, q, hA0, _⟩ := hW
  have hA : DataW.TrodAll enc Try.prog W 0 (fun _ => true) true Try.f7.params.toList args.toList ds p := hA0
  clear hA0 hval0 hcnd
  rw [Try.params7] at hA hval
  obtain ⟨vs, rfl, hA⟩ := args_list hA
  obtain ⟨a0, vs, d0, ds, p0, q0, rfl, rfl, rfl, g0, hA⟩ := trodAll_cons hA
  obtain ⟨a1, vs, d1, ds, p1, q1, rfl, rfl, rfl, g1, hA⟩ := trodAll_cons hA
  obtain ⟨a2, vs, d2, ds, p2, q2, rfl, rfl, rfl, g2, hA⟩ := trodAll_cons hA
  obtain ⟨a3, vs, d3, ds, p3, q3, rfl, rfl, rfl, g3, hA⟩ := trodAll_cons hA
  obtain ⟨a4, vs, d4, ds, p4, q4, rfl, rfl, rfl, g4, hA⟩ := trodAll_cons hA
  obtain ⟨rfl, rfl, rfl⟩ := trodAll_nil hA
  obtain ⟨l, vl1, e0, s0⟩ := open_one rdT41 (noagg_slice Try.underlying41) (hval 0 41 a0 rfl rfl) g0
  obtain rfl := (List.cons.inj e0).1
  obtain ⟨first, e1⟩ := open_one rdT3 (noagg_int Try.underlying3) (hval 1 3 a1 rfl rfl) g1
  obtain rfl : a1 = vI first := (List.cons.inj (show [a1] = [vI first] from e1)).1
  obtain ⟨id, e2⟩ := open_one rdT3 (noagg_int Try.underlying3) (hval 2 3 a2 rfl rfl) g2
  obtain rfl : a2 = vI id := (List.cons.inj (show [a2] = [vI id] from e2)).1
  obtain ⟨atp3, e3⟩ := open_one rdT3 (noagg_int Try.underlying3) (hval 3 3 a3 rfl rfl) g3
  obtain rfl : a3 = vI atp3 := (List.cons.inj (show [a3] = [vI atp3] from e3)).1
  obtain ⟨wrap, e4⟩ := open_one rdT4 (noagg_bool Try.underlying4) (hval 4 4 a4 rfl rfl) g4
  obtain rfl : a4 = vB wrap := (List.cons.inj (show [a4] = [vB wrap] from e4)).1
  refine law_calls Try.laidOut (by kernel_rfl) rfl Try.underlying4 rfl ?_ (w_law10zWalkBack (t_law10zWalkBack l first id atp3 wrap)) (facts_cons s0 (facts_nil)) hW2
  intro ds h
  rw [Try.params7] at h
  rcases ds with _ | ⟨d0, _ | ⟨d1, _ | ⟨d2, _ | ⟨d3, _ | ⟨d4, _ | ⟨d5, ds⟩⟩⟩⟩⟩⟩ <;> first | rfl | simp at h
theorem walkBack_holds : Rows.WalkBackSaid :=
  OpenClaim.holds_of_wide 7 Try.f7 rfl rfl rfl rfl rfl rfl rfl ⟨rfl, rfl, rfl, rfl, rfl⟩ rfl rfl rfl rfl rfl (by kernel_rfl) Try.func7 (by kernel_rfl)
    (of_decide_eq_true (by kernel_rfl)) (by unfold Func.isWrapper; first | (rw [if_pos (by decide +kernel)]; kernel_rfl) | (rw [if_neg (by decide +kernel)]; exact ⟨rfl, rfl⟩))
    (fun os started H enc _ => walkBack_lifted os started H enc)
end Go.Proofs.Ytlofegfaphijpaa
