/- The statement LayoutApart of the seat: whatever the input, the law returns true and its arguments read as before. No condition. -/
import Derived.Test.YtbeendakebamhaaRows
import Derived.Test.YtbeendakebamhaaRd
import Derived.Test.YtbeendakebamhaaWlLayoutApart
import Derived.Test.YtbeendakebamhaaPuLayoutApart
namespace Go.Proofs.Ytbeendakebamhaa
open Go.ChangeShapes Go.WideShapes Go.ChangeAt Go.RowKit

theorem Try.own : ownKnob Try.prog.godebug = none := by kernel_rfl
theorem Try.laidOut : laidOutB Try.prog = true := by kernel_rfl

set_option maxRecDepth 100000 in
theorem layoutApart_lifted (os : Os) (started : os.Started) (H : Type) (enc : TypeId × Value → H) :
    ReturnsInHanded {} Try.checked os 4 .any (Rows.layoutApartSpec.pre6 enc Try.prog Try.f4 Rows.layoutApartRow.domain false) (Rows.layoutApartSpec.post enc Try.prog Try.f4 false true false false) := by
  refine returnsInHanded_of_change (C := Try.checked) Try.own started (by kernel_rfl) Try.func4 (ChangeSpec.witness6 (enc := enc) (C := Try.checked) false ⟨#[], #[.agg #[.bool false, .int .i64 0, .int .u64 0, .int .u64 0, .int .u64 0], .int .i64 0, .int .i64 0, .int .i64 0, .int .i64 0], []⟩ 8 (by kernel_rfl) (by kernel_rfl) (by kernel_rfl) (by kernel_rfl)) ?_
  intro W base args ds gs before hval0 hW hcnd _
  have hW2 : DataW.Whole enc Try.prog Try.f4.params.toList Rows.layoutApartSpec.vars false W args.toList ds gs before := hW
  have hval : ∀ (j : Nat) t v, Try.f4.params[j]? = some t → args[j]? = some v → Value.okWide Try.prog W .any base t v := hval0
  obtain ⟨p, q, hA0, _⟩ := hW
  have hA : DataW.TrodAll enc Try.prog W 0 (fun _ => true) true Try.f4.params.toList args.toList ds p := hA0
  clear hA0 hval0 hcnd
  rw [Try.params4] at hA hval
  obtain ⟨vs, rfl, hA⟩ := args_list hA
  obtain ⟨a0, vs, d0, ds, p0, q0, rfl, rfl, rfl, g0, hA⟩ := trodAll_cons hA
  obtain ⟨a1, vs, d1, ds, p1, q1, rfl, rfl, rfl, g1, hA⟩ := trodAll_cons hA
  obtain ⟨a2, vs, d2, ds, p2, q2, rfl, rfl, rfl, g2, hA⟩ := trodAll_cons hA
  obtain ⟨a3, vs, d3, ds, p3, q3, rfl, rfl, rfl, g3, hA⟩ := trodAll_cons hA
  obtain ⟨a4, vs, d4, ds, p4, q4, rfl, rfl, rfl, g4, hA⟩ := trodAll_cons hA
  obtain ⟨rfl, rfl, rfl⟩ := trodAll_nil hA
  obtain ⟨rp0, cs0, e0, s0⟩ := open_agg rdT27 (agg_struct Try.underlying27 (hval 0 27 a0 rfl rfl)) g0
  obtain rfl : cs0 = [vB rp0.Packed, vI rp0.Size, vU64 rp0.Desc, vU64 rp0.Driver, vU64 rp0.Device] := s0
  subst e0
  obtain ⟨ap1, e1⟩ := open_one rdT3 (noagg_int Try.underlying3) (hval 1 3 a1 rfl rfl) g1
  obtain rfl : a1 = vI ap1 := (List.cons.inj (show [a1] = [vI ap1] from e1)).1
  obtain ⟨ip2, e2⟩ := open_one rdT3 (noagg_int Try.underlying3) (hval 2 3 a2 rfl rfl) g2
  obtain rfl : a2 = vI ip2 := (List.cons.inj (show [a2] = [vI ip2] from e2)).1
  obtain ⟨b, e3⟩ := open_one rdT3 (noagg_int Try.underlying3) (hval 3 3 a3 rfl rfl) g3
  obtain rfl : a3 = vI b := (List.cons.inj (show [a3] = [vI b] from e3)).1
  obtain ⟨jp4, e4⟩ := open_one rdT3 (noagg_int Try.underlying3) (hval 4 3 a4 rfl rfl) g4
  obtain rfl : a4 = vI jp4 := (List.cons.inj (show [a4] = [vI jp4] from e4)).1
  refine law_calls Try.laidOut (by kernel_rfl) rfl Try.underlying4 rfl ?_ (w_law04zLayoutApart (t_law04zLayoutApart rp0 ap1 ip2 b jp4)) (facts_nil) hW2
  intro ds h
  rw [Try.params4] at h
  rcases ds with _ | ⟨d0, _ | ⟨d1, _ | ⟨d2, _ | ⟨d3, _ | ⟨d4, _ | ⟨d5, ds⟩⟩⟩⟩⟩⟩ <;> first | rfl | simp at h
theorem layoutApart_holds : Rows.LayoutApartSaid :=
  OpenClaim.holds_of_wide 4 Try.f4 rfl rfl rfl rfl rfl rfl rfl ⟨rfl, rfl, rfl, rfl, rfl⟩ rfl rfl rfl rfl rfl (by kernel_rfl) Try.func4 (by kernel_rfl)
    (of_decide_eq_true (by kernel_rfl)) (by unfold Func.isWrapper; first | (rw [if_pos (by decide +kernel)]; kernel_rfl) | (rw [if_neg (by decide +kernel)]; exact ⟨rfl, rfl⟩))
    (fun os started H enc _ => layoutApart_lifted os started H enc)
end Go.Proofs.Ytbeendakebamhaa
