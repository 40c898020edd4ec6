/- The statement WalkEnds of the seat: whatever the input, the law returns true and its arguments read as before. No condition. -/
import Derived.Test.YtlofegfaphijpaaRows
import Derived.Test.YtlofegfaphijpaaRd
import Derived.Test.YtlofegfaphijpaaWlWalkEnds
import Derived.Test.YtlofegfaphijpaaGp1
namespace Go.Proofs.Ytlofegfaphijpaa
open Go.ChangeShapes Go.WideShapes Go.ChangeAt Go.RowKit

theorem Try.own : ownKnob Try.prog.godebug = none := by kernel_rfl
theorem Try.laidOut : laidOutB Try.prog = true := by kernel_rfl

set_option maxRecDepth 100000 in
theorem walkEnds_lifted (os : Os) (started : os.Started) (H : Type) (enc : TypeId × Value → H) :
    ReturnsInHanded {} Try.checked os 6 .any (Rows.walkEndsSpec.pre6 enc Try.prog Try.f6 Rows.walkEndsRow.domain false) (Rows.walkEndsSpec.post enc Try.prog Try.f6 false true false false) := by
  refine returnsInHanded_of_change (C := Try.checked) Try.own started (by kernel_rfl) Try.func6 (ChangeSpec.witness6 (enc := enc) (C := Try.checked) false ⟨#[], #[.int .i64 0, .slice none 0 0, .slice none 0 0, .int .i64 0, .int .i64 0, .agg #[.int .i64 0, .bool false]], []⟩ 8 (by kernel_rfl) (by kernel_rfl) (by kernel_rfl) (by kernel_rfl)) ?_
  intro W base args ds gs before hval0 hW hcnd _
  have hW2 : DataW.Whole enc Try.prog Try.f6.params.toList Rows.walkEndsSpec.vars false W args.toList ds gs before := hW
  have hval : ∀ (j : Nat) t v, Try.f6.params[j]? = some t → args[j]? = some v → Value.okWide Try.prog W .any base t v := hval0
  obtain ⟨p, q, hA0, _⟩ := hW
  have hA : DataW.TrodAll enc Try.prog W 0 (fun _ => true) true Try.f6.params.toList args.toList ds p := hA0
  clear hA0 hval0 hcnd
  rw [Try.params6] at hA hval
  obtain ⟨vs, rfl, hA⟩ := args_list hA
  obtain ⟨a0, vs, d0, ds, p0, q0, rfl, rfl, rfl, g0, hA⟩ := trodAll_cons hA
  obtain ⟨a1, vs, d1, ds, p1, q1, rfl, rfl, rfl, g1, hA⟩ := trodAll_cons hA
  obtain ⟨a2, vs, d2, ds, p2, q2, rfl, rfl, rfl, g2, hA⟩ := trodAll_cons hA
  obtain ⟨a3, vs, d3, ds, p3, q3, rfl, rfl, rfl, g3, hA⟩ := trodAll_cons hA
  obtain ⟨a4, vs, d4, ds, p4, q4, rfl, rfl, rfl, g4, hA⟩ := trodAll_cons hA
  obtain ⟨a5, vs, d5, ds, p5, q5, rfl, rfl, rfl, g5, hA⟩ := trodAll_cons hA
  obtain ⟨rfl, rfl, rfl⟩ := trodAll_nil hA
  obtain ⟨size, e0⟩ := open_one rdT3 (noagg_int Try.underlying3) (hval 0 3 a0 rfl rfl) g0
  obtain rfl : a0 = vI size := (List.cons.inj (show [a0] = [vI size] from e0)).1
  obtain ⟨l, vl1, e1, s1⟩ := open_one rdT62 (noagg_slice Try.underlying62) (hval 1 62 a1 rfl rfl) g1
  obtain rfl := (List.cons.inj e1).1
  obtain ⟨raw, vraw1, e2, s2⟩ := open_one rdT39 (noagg_slice Try.underlying39) (hval 2 39 a2 rfl rfl) g2
  obtain rfl := (List.cons.inj e2).1
  obtain ⟨atp3, e3⟩ := open_one rdT3 (noagg_int Try.underlying3) (hval 3 3 a3 rfl rfl) g3
  obtain rfl : a3 = vI atp3 := (List.cons.inj (show [a3] = [vI atp3] from e3)).1
  obtain ⟨head, e4⟩ := open_one rdT3 (noagg_int Try.underlying3) (hval 4 3 a4 rfl rfl) g4
  obtain rfl : a4 = vI head := (List.cons.inj (show [a4] = [vI head] from e4)).1
  obtain ⟨pp5, cs5, e5, s5⟩ := open_agg rdT60 (agg_struct Try.underlying60 (hval 5 60 a5 rfl rfl)) g5
  obtain rfl : cs5 = [vI pp5.At, vB pp5.Wrap] := s5
  subst e5
  refine law_calls Try.laidOut (by kernel_rfl) rfl Try.underlying4 rfl ?_ (w_law10zWalkEnds (t_law10zWalkEnds size l raw atp3 head pp5)) (facts_cons s1 (facts_cons s2 (facts_nil))) hW2
  intro ds h
  rw [Try.params6] at h
  rcases ds with _ | ⟨d0, _ | ⟨d1, _ | ⟨d2, _ | ⟨d3, _ | ⟨d4, _ | ⟨d5, _ | ⟨d6, ds⟩⟩⟩⟩⟩⟩⟩ <;> first | rfl | simp at h
theorem walkEnds_holds : Rows.WalkEndsSaid :=
  OpenClaim.holds_of_wide 6 Try.f6 rfl rfl rfl rfl rfl rfl rfl ⟨rfl, rfl, rfl, rfl, rfl⟩ rfl rfl rfl rfl rfl (by kernel_rfl) Try.func6 (by kernel_rfl)
    (of_decide_eq_true (by kernel_rfl)) (by unfold Func.isWrapper; first | (rw [if_pos (by decide +kernel)]; kernel_rfl) | (rw [if_neg (by decide +kernel)]; exact ⟨rfl, rfl⟩))
    (fun os started H enc _ => walkEnds_lifted os started H enc)
end Go.Proofs.Ytlofegfaphijpaa
