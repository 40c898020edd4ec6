/- The statement DescCalls of the seat: whatever the input, the law returns true and its arguments read as before. No condition. -/
import Derived.Test.YtamdpkddehhocaaRows
import Derived.Test.YtamdpkddehhocaaRd
import Derived.Test.YtamdpkddehhocaaWlDescCalls
import Derived.Test.YtamdpkddehhocaaPuDescCalls
namespace Go.Proofs.Ytamdpkddehhocaa
open Go.ChangeShapes Go.WideShapes Go.ChangeAt Go.RowKit

theorem Try.own : ownKnob Try.prog.godebug = none := by kernel_rfl
theorem Try.laidOut : laidOutB Try.prog = true := by kernel_rfl

set_option maxRecDepth 100000 in
theorem descCalls_lifted (os : Os) (started : os.Started) (H : Type) (enc : TypeId × Value → H) :
    ReturnsInHanded {} Try.checked os 7 .any (Rows.descCallsSpec.pre6 enc Try.prog Try.f7 Rows.descCallsRow.domain false) (Rows.descCallsSpec.post enc Try.prog Try.f7 false true false false) := by
  refine returnsInHanded_of_change (C := Try.checked) Try.own started (by kernel_rfl) Try.func7 (ChangeSpec.witness6 (enc := enc) (C := Try.checked) false ⟨#[], #[.agg #[.int .u64 0, .int .u32 0, .int .u16 0, .int .u16 0], .agg #[.int .u64 0, .int .u32 0, .int .u16 0, .int .u16 0], .int .u64 0, .slice none 0 0, .slice none 0 0, .int .u16 0, .bool false, .bool false], []⟩ 8 (by kernel_rfl) (by kernel_rfl) (by kernel_rfl) (by kernel_rfl)) ?_
  intro W base args ds gs before hval0 hW hcnd _
  have hW2 : DataW.Whole enc Try.prog Try.f7.params.toList Rows.descCallsSpec.vars false W args.toList ds gs before := hW
  have hval : ∀ (j : Nat) t v, Try.f7.params[j]? = some t → args[j]? = some v → Value.okWide Try.prog W .any base t v := hval0
  obtain ⟨p, q, hA0, _⟩ := hW
  have hA : DataW.TrodAll enc Try.prog W 0 (fun _ => true) true Try.f7.params.toList args.toList ds p := hA0
  clear hA0 hval0 hcnd
  rw [Try.params7] at hA hval
  obtain ⟨vs, rfl, hA⟩ := args_list hA
  obtain ⟨a0, vs, d0, ds, p0, q0, rfl, rfl, rfl, g0, hA⟩ := trodAll_cons hA
  obtain ⟨a1, vs, d1, ds, p1, q1, rfl, rfl, rfl, g1, hA⟩ := trodAll_cons hA
  obtain ⟨a2, vs, d2, ds, p2, q2, rfl, rfl, rfl, g2, hA⟩ := trodAll_cons hA
  obtain ⟨a3, vs, d3, ds, p3, q3, rfl, rfl, rfl, g3, hA⟩ := trodAll_cons hA
  obtain ⟨a4, vs, d4, ds, p4, q4, rfl, rfl, rfl, g4, hA⟩ := trodAll_cons hA
  obtain ⟨a5, vs, d5, ds, p5, q5, rfl, rfl, rfl, g5, hA⟩ := trodAll_cons hA
  obtain ⟨a6, vs, d6, ds, p6, q6, rfl, rfl, rfl, g6, hA⟩ := trodAll_cons hA
  obtain ⟨a7, vs, d7, ds, p7, q7, rfl, rfl, rfl, g7, hA⟩ := trodAll_cons hA
  obtain ⟨rfl, rfl, rfl⟩ := trodAll_nil hA
  obtain ⟨dp0, cs0, e0, s0⟩ := open_agg rdT29 (agg_struct Try.underlying29 (hval 0 29 a0 rfl rfl)) g0
  obtain rfl : cs0 = [vU64 dp0.Addr, vU32 dp0.Len, vU16 dp0.Flags, vU16 dp0.Next] := s0
  subst e0
  obtain ⟨pp1, cs1, e1, s1⟩ := open_agg rdT31 (agg_struct Try.underlying31 (hval 1 31 a1 rfl rfl)) g1
  obtain rfl : cs1 = [vU64 pp1.Addr, vU32 pp1.Len, vU16 pp1.ID, vU16 pp1.Flags] := s1
  subst e1
  obtain ⟨wp2, e2⟩ := open_one rdT26 (noagg_int Try.underlying26) (hval 2 26 a2 rfl rfl) g2
  obtain rfl : a2 = vU64 wp2 := (List.cons.inj (show [a2] = [vU64 wp2] from e2)).1
  obtain ⟨b, vb1, e3, s3⟩ := open_one rdT34 (noagg_slice Try.underlying34) (hval 3 34 a3 rfl rfl) g3
  obtain rfl := (List.cons.inj e3).1
  obtain ⟨l, vl1, e4, s4⟩ := open_one rdT32 (noagg_slice Try.underlying32) (hval 4 32 a4 rfl rfl) g4
  obtain rfl := (List.cons.inj e4).1
  obtain ⟨flags, e5⟩ := open_one rdT22 (noagg_int Try.underlying22) (hval 5 22 a5 rfl rfl) g5
  obtain rfl : a5 = vU16 flags := (List.cons.inj (show [a5] = [vU16 flags] from e5)).1
  obtain ⟨wrap, e6⟩ := open_one rdT4 (noagg_bool Try.underlying4) (hval 6 4 a6 rfl rfl) g6
  obtain rfl : a6 = vB wrap := (List.cons.inj (show [a6] = [vB wrap] from e6)).1
  obtain ⟨used, e7⟩ := open_one rdT4 (noagg_bool Try.underlying4) (hval 7 4 a7 rfl rfl) g7
  obtain rfl : a7 = vB used := (List.cons.inj (show [a7] = [vB used] from e7)).1
  refine law_calls Try.laidOut (by kernel_rfl) rfl Try.underlying4 rfl ?_ (w_law_DescCalls (t_law_DescCalls dp0 pp1 wp2 b l flags wrap used)) (facts_cons s3 (facts_cons s4 (facts_nil))) hW2
  intro ds h
  rw [Try.params7] at h
  rcases ds with _ | ⟨d0, _ | ⟨d1, _ | ⟨d2, _ | ⟨d3, _ | ⟨d4, _ | ⟨d5, _ | ⟨d6, _ | ⟨d7, _ | ⟨d8, ds⟩⟩⟩⟩⟩⟩⟩⟩⟩ <;> first | rfl | simp at h
theorem descCalls_holds : Rows.DescCallsSaid :=
  OpenClaim.holds_of_wide 7 Try.f7 rfl rfl rfl rfl rfl rfl rfl ⟨rfl, rfl, rfl, rfl, rfl⟩ rfl rfl rfl rfl rfl (by kernel_rfl) Try.func7 (by kernel_rfl)
    (of_decide_eq_true (by kernel_rfl)) (by unfold Func.isWrapper; first | (rw [if_pos (by decide +kernel)]; kernel_rfl) | (rw [if_neg (by decide +kernel)]; exact ⟨rfl, rfl⟩))
    (fun os started H enc _ => descCalls_lifted os started H enc)
end Go.Proofs.Ytamdpkddehhocaa
