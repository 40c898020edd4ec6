/- The statement SegCalls of the seat: whatever the input, the law returns true and its arguments read as before. No condition. -/
import Derived.Test.YtkdekmjcfoahjaaRows
import Derived.Test.YtkdekmjcfoahjaaRd
import Derived.Test.YtkdekmjcfoahjaaWlSegCalls
import Derived.Test.YtkdekmjcfoahjaaPuSegCalls
namespace Go.Proofs.Ytkdekmjcfoahjaa
open Go.ChangeShapes Go.WideShapes Go.ChangeAt Go.RowKit

theorem Try.own : ownKnob Try.prog.godebug = none := by kernel_rfl
theorem Try.laidOut : laidOutB Try.prog = true := by kernel_rfl

set_option maxRecDepth 100000 in
theorem segCalls_lifted (os : Os) (started : os.Started) (H : Type) (enc : TypeId × Value → H) :
    ReturnsInHanded {} Try.checked os 7 .any (Rows.segCallsSpec.pre6 enc Try.prog Try.f7 Rows.segCallsRow.domain false) (Rows.segCallsSpec.post enc Try.prog Try.f7 false true false false) := by
  refine returnsInHanded_of_change (C := Try.checked) Try.own started (by kernel_rfl) Try.func7 (ChangeSpec.witness6 (enc := enc) (C := Try.checked) false ⟨#[], #[.slice none 0 0, .slice none 0 0, .slice none 0 0, .slice none 0 0, .int .u64 0, .int .u64 0, .bool false], []⟩ 8 (by kernel_rfl) (by kernel_rfl) (by kernel_rfl) (by kernel_rfl)) ?_
  intro W base args ds gs before hval0 hW hcnd _
  have hW2 : DataW.Whole enc Try.prog Try.f7.params.toList Rows.segCallsSpec.vars false W args.toList ds gs before := hW
  have hval : ∀ (j : Nat) t v, Try.f7.params[j]? = some t → args[j]? = some v → Value.okWide Try.prog W .any base t v := hval0
  obtain ⟨p, q, hA0, _⟩ := hW
  have hA : DataW.TrodAll enc Try.prog W 0 (fun _ => true) true Try.f7.params.toList args.toList ds p := hA0
  clear hA0 hval0 hcnd
  rw [Try.params7] at hA hval
  obtain ⟨vs, rfl, hA⟩ := args_list hA
  obtain ⟨a0, vs, d0, ds, p0, q0, rfl, rfl, rfl, g0, hA⟩ := trodAll_cons hA
  obtain ⟨a1, vs, d1, ds, p1, q1, rfl, rfl, rfl, g1, hA⟩ := trodAll_cons hA
  obtain ⟨a2, vs, d2, ds, p2, q2, rfl, rfl, rfl, g2, hA⟩ := trodAll_cons hA
  obtain ⟨a3, vs, d3, ds, p3, q3, rfl, rfl, rfl, g3, hA⟩ := trodAll_cons hA
  obtain ⟨a4, vs, d4, ds, p4, q4, rfl, rfl, rfl, g4, hA⟩ := trodAll_cons hA
  obtain ⟨a5, vs, d5, ds, p5, q5, rfl, rfl, rfl, g5, hA⟩ := trodAll_cons hA
  obtain ⟨a6, vs, d6, ds, p6, q6, rfl, rfl, rfl, g6, hA⟩ := trodAll_cons hA
  obtain ⟨rfl, rfl, rfl⟩ := trodAll_nil hA
  obtain ⟨regions, vregions1, e0, s0⟩ := open_one rdT39 (noagg_slice Try.underlying39) (hval 0 39 a0 rfl rfl) g0
  obtain rfl := (List.cons.inj e0).1
  obtain ⟨l, vl1, e1, s1⟩ := open_one rdT22 (noagg_slice Try.underlying22) (hval 1 22 a1 rfl rfl) g1
  obtain rfl := (List.cons.inj e1).1
  obtain ⟨op2, vop21, e2, s2⟩ := open_one rdT22 (noagg_slice Try.underlying22) (hval 2 22 a2 rfl rfl) g2
  obtain rfl := (List.cons.inj e2).1
  obtain ⟨b, vb1, e3, s3⟩ := open_one rdT33 (noagg_slice Try.underlying33) (hval 3 33 a3 rfl rfl) g3
  obtain rfl := (List.cons.inj e3).1
  obtain ⟨fromp4, e4⟩ := open_one rdT23 (noagg_int Try.underlying23) (hval 4 23 a4 rfl rfl) g4
  obtain rfl : a4 = vU64 fromp4 := (List.cons.inj (show [a4] = [vU64 fromp4] from e4)).1
  obtain ⟨np5, e5⟩ := open_one rdT23 (noagg_int Try.underlying23) (hval 5 23 a5 rfl rfl) g5
  obtain rfl : a5 = vU64 np5 := (List.cons.inj (show [a5] = [vU64 np5] from e5)).1
  obtain ⟨write, e6⟩ := open_one rdT4 (noagg_bool Try.underlying4) (hval 6 4 a6 rfl rfl) g6
  obtain rfl : a6 = vB write := (List.cons.inj (show [a6] = [vB write] from e6)).1
  refine law_calls Try.laidOut (by kernel_rfl) rfl Try.underlying4 rfl ?_ (w_law05zSegCalls (t_law05zSegCalls regions l op2 b fromp4 np5 write)) (facts_cons s0 (facts_cons s1 (facts_cons s2 (facts_cons s3 (facts_nil))))) hW2
  intro ds h
  rw [Try.params7] at h
  rcases ds with _ | ⟨d0, _ | ⟨d1, _ | ⟨d2, _ | ⟨d3, _ | ⟨d4, _ | ⟨d5, _ | ⟨d6, _ | ⟨d7, ds⟩⟩⟩⟩⟩⟩⟩⟩ <;> first | rfl | simp at h
theorem segCalls_holds : Rows.SegCallsSaid :=
  OpenClaim.holds_of_wide 7 Try.f7 rfl rfl rfl rfl rfl rfl rfl ⟨rfl, rfl, rfl, rfl, rfl⟩ rfl rfl rfl rfl rfl (by kernel_rfl) Try.func7 (by kernel_rfl)
    (of_decide_eq_true (by kernel_rfl)) (by unfold Func.isWrapper; first | (rw [if_pos (by decide +kernel)]; kernel_rfl) | (rw [if_neg (by decide +kernel)]; exact ⟨rfl, rfl⟩))
    (fun os started H enc _ => segCalls_lifted os started H enc)
end Go.Proofs.Ytkdekmjcfoahjaa
