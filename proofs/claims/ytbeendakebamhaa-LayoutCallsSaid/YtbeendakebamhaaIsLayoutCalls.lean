/- The statement LayoutCalls of the seat: whatever the input, the law returns true and its arguments read as before. No condition. -/
import Derived.Test.YtbeendakebamhaaRows
import Derived.Test.YtbeendakebamhaaRd
import Derived.Test.YtbeendakebamhaaWlLayoutCalls
import Derived.Test.YtbeendakebamhaaPuLayoutCalls
namespace Go.Proofs.Ytbeendakebamhaa
open Go.ChangeShapes Go.WideShapes Go.ChangeAt Go.RowKit

theorem Try.own : ownKnob Try.prog.godebug = none := by kernel_rfl
theorem Try.laidOut : laidOutB Try.prog = true := by kernel_rfl

set_option maxRecDepth 100000 in
theorem layoutCalls_lifted (os : Os) (started : os.Started) (H : Type) (enc : TypeId × Value → H) :
    ReturnsInHanded {} Try.checked os 7 .any (Rows.layoutCallsSpec.pre6 enc Try.prog Try.f7 Rows.layoutCallsRow.domain false) (Rows.layoutCallsSpec.post enc Try.prog Try.f7 false true false false) := by
  refine returnsInHanded_of_change (C := Try.checked) Try.own started (by kernel_rfl) Try.func7 (ChangeSpec.witness6 (enc := enc) (C := Try.checked) false ⟨#[], #[.agg #[.bool false, .int .i64 0, .int .u64 0, .int .u64 0, .int .u64 0], .int .i64 0, .int .i64 0, .bool false, .int .i64 0, .int .u64 0, .int .u64 0, .int .u64 0, .slice none 0 0], []⟩ 8 (by kernel_rfl) (by kernel_rfl) (by kernel_rfl) (by kernel_rfl)) ?_
  intro W base args ds gs before hval0 hW hcnd _
  have hW2 : DataW.Whole enc Try.prog Try.f7.params.toList Rows.layoutCallsSpec.vars false W args.toList ds gs before := hW
  have hval : ∀ (j : Nat) t v, Try.f7.params[j]? = some t → args[j]? = some v → Value.okWide Try.prog W .any base t v := hval0
  obtain ⟨p, q, hA0, _⟩ := hW
  have hA : DataW.TrodAll enc Try.prog W 0 (fun _ => true) true Try.f7.params.toList args.toList ds p := hA0
  clear hA0 hval0 hcnd
  rw [Try.params7] at hA hval
  obtain ⟨vs, rfl, hA⟩ := args_list hA
  obtain ⟨a0, vs, d0, ds, p0, q0, rfl, rfl, rfl, g0, hA⟩ := trodAll_cons hA
  obtain ⟨a1, vs, d1, ds, p1, q1, rfl, rfl, rfl, g1, hA⟩ := trodAll_cons hA
  obtain ⟨a2, vs, d2, ds, p2, q2, rfl, rfl, rfl, g2, hA⟩ := trodAll_cons hA
  obtain ⟨a3, vs, d3, ds, p3, q3, rfl, rfl, rfl, g3, hA⟩ := trodAll_cons hA
  obtain ⟨a4, vs, d4, ds, p4, q4, rfl, rfl, rfl, g4, hA⟩ := trodAll_cons hA
  obtain ⟨a5, vs, d5, ds, p5, q5, rfl, rfl, rfl, g5, hA⟩ := trodAll_cons hA
  obtain ⟨a6, vs, d6, ds, p6, q6, rfl, rfl, rfl, g6, hA⟩ := trodAll_cons hA
  obtain ⟨a7, vs, d7, ds, p7, q7, rfl, rfl, rfl, g7, hA⟩ := trodAll_cons hA
  obtain ⟨a8, vs, d8, ds, p8, q8, rfl, rfl, rfl, g8, hA⟩ := trodAll_cons hA
  obtain ⟨rfl, rfl, rfl⟩ := trodAll_nil hA
  obtain ⟨rp0, cs0, e0, s0⟩ := open_agg rdT27 (agg_struct Try.underlying27 (hval 0 27 a0 rfl rfl)) g0
  obtain rfl : cs0 = [vB rp0.Packed, vI rp0.Size, vU64 rp0.Desc, vU64 rp0.Driver, vU64 rp0.Device] := s0
  subst e0
  obtain ⟨what, e1⟩ := open_one rdT3 (noagg_int Try.underlying3) (hval 1 3 a1 rfl rfl) g1
  obtain rfl : a1 = vI what := (List.cons.inj (show [a1] = [vI what] from e1)).1
  obtain ⟨ip2, e2⟩ := open_one rdT3 (noagg_int Try.underlying3) (hval 2 3 a2 rfl rfl) g2
  obtain rfl : a2 = vI ip2 := (List.cons.inj (show [a2] = [vI ip2] from e2)).1
  obtain ⟨packed, e3⟩ := open_one rdT4 (noagg_bool Try.underlying4) (hval 3 4 a3 rfl rfl) g3
  obtain rfl : a3 = vB packed := (List.cons.inj (show [a3] = [vB packed] from e3)).1
  obtain ⟨size, e4⟩ := open_one rdT3 (noagg_int Try.underlying3) (hval 4 3 a4 rfl rfl) g4
  obtain rfl : a4 = vI size := (List.cons.inj (show [a4] = [vI size] from e4)).1
  obtain ⟨base, e5⟩ := open_one rdT22 (noagg_int Try.underlying22) (hval 5 22 a5 rfl rfl) g5
  obtain rfl : a5 = vU64 base := (List.cons.inj (show [a5] = [vU64 base] from e5)).1
  obtain ⟨atp6, e6⟩ := open_one rdT22 (noagg_int Try.underlying22) (hval 6 22 a6 rfl rfl) g6
  obtain rfl : a6 = vU64 atp6 := (List.cons.inj (show [a6] = [vU64 atp6] from e6)).1
  obtain ⟨np7, e7⟩ := open_one rdT22 (noagg_int Try.underlying22) (hval 7 22 a7 rfl rfl) g7
  obtain rfl : a7 = vU64 np7 := (List.cons.inj (show [a7] = [vU64 np7] from e7)).1
  obtain ⟨l, vl1, e8, s8⟩ := open_one rdT45 (noagg_slice Try.underlying45) (hval 8 45 a8 rfl rfl) g8
  obtain rfl := (List.cons.inj e8).1
  refine law_calls Try.laidOut (by kernel_rfl) rfl Try.underlying4 rfl ?_ (w_law04zLayoutCalls (t_law04zLayoutCalls rp0 what ip2 packed size base atp6 np7 l)) (facts_cons s8 (facts_nil)) hW2
  intro ds h
  rw [Try.params7] at h
  rcases ds with _ | ⟨d0, _ | ⟨d1, _ | ⟨d2, _ | ⟨d3, _ | ⟨d4, _ | ⟨d5, _ | ⟨d6, _ | ⟨d7, _ | ⟨d8, _ | ⟨d9, ds⟩⟩⟩⟩⟩⟩⟩⟩⟩⟩ <;> first | rfl | simp at h
theorem layoutCalls_holds : Rows.LayoutCallsSaid :=
  OpenClaim.holds_of_wide 7 Try.f7 rfl rfl rfl rfl rfl rfl rfl ⟨rfl, rfl, rfl, rfl, rfl⟩ rfl rfl rfl rfl rfl (by kernel_rfl) Try.func7 (by kernel_rfl)
    (of_decide_eq_true (by kernel_rfl)) (by unfold Func.isWrapper; first | (rw [if_pos (by decide +kernel)]; kernel_rfl) | (rw [if_neg (by decide +kernel)]; exact ⟨rfl, rfl⟩))
    (fun os started H enc _ => layoutCalls_lifted os started H enc)
end Go.Proofs.Ytbeendakebamhaa
