/- The statement ConsStreams of the seat: whatever the input, the law returns true and its arguments read as before. No condition. -/
import Derived.Test.YtkjmmbmlapmkbaaRows
import Derived.Test.YtkjmmbmlapmkbaaRd
import Derived.Test.YtkjmmbmlapmkbaaWlConsStreams
import Derived.Test.YtkjmmbmlapmkbaaPuConsStreams
namespace Go.Proofs.Ytkjmmbmlapmkbaa
open Go.ChangeShapes Go.WideShapes Go.ChangeAt Go.RowKit

theorem Try.own : ownKnob Try.prog.godebug = none := by kernel_rfl
theorem Try.laidOut : laidOutB Try.prog = true := by kernel_rfl

set_option maxRecDepth 100000 in
theorem consStreams_lifted (os : Os) (started : os.Started) (H : Type) (enc : TypeId × Value → H) :
    ReturnsInHanded {} Try.checked os 6 .any (Rows.consStreamsSpec.pre6 enc Try.prog Try.f6 Rows.consStreamsRow.domain false) (Rows.consStreamsSpec.post enc Try.prog Try.f6 false true false false) := by
  refine returnsInHanded_of_change (C := Try.checked) Try.own started (by kernel_rfl) Try.func6 (ChangeSpec.witness6 (enc := enc) (C := Try.checked) false ⟨#[], #[.slice none 0 0, .slice none 0 0], []⟩ 8 (by kernel_rfl) (by kernel_rfl) (by kernel_rfl) (by kernel_rfl)) ?_
  intro W base args ds gs before hval0 hW hcnd _
  have hW2 : DataW.Whole enc Try.prog Try.f6.params.toList Rows.consStreamsSpec.vars false W args.toList ds gs before := hW
  have hval : ∀ (j : Nat) t v, Try.f6.params[j]? = some t → args[j]? = some v → Value.okWide Try.prog W .any base t v := hval0
  obtain ⟨p, q, hA0, _⟩ := hW
  have hA : DataW.TrodAll enc Try.prog W 0 (fun _ => true) true Try.f6.params.toList args.toList ds p := hA0
  clear hA0 hval0 hcnd
  rw [Try.params6] at hA hval
  obtain ⟨vs, rfl, hA⟩ := args_list hA
  obtain ⟨a0, vs, d0, ds, p0, q0, rfl, rfl, rfl, g0, hA⟩ := trodAll_cons hA
  obtain ⟨a1, vs, d1, ds, p1, q1, rfl, rfl, rfl, g1, hA⟩ := trodAll_cons hA
  obtain ⟨rfl, rfl, rfl⟩ := trodAll_nil hA
  obtain ⟨parts, vparts1, e0, s0⟩ := open_one rdT55 (noagg_slice Try.underlying55) (hval 0 55 a0 rfl rfl) g0
  obtain rfl := (List.cons.inj e0).1
  obtain ⟨sizes, vsizes1, e1, s1⟩ := open_one rdT31 (noagg_slice Try.underlying31) (hval 1 31 a1 rfl rfl) g1
  obtain rfl := (List.cons.inj e1).1
  refine law_calls Try.laidOut (by kernel_rfl) rfl Try.underlying4 rfl ?_ (w_law28zConsStreams (t_law28zConsStreams parts sizes)) (facts_cons s0 (facts_cons s1 (facts_nil))) hW2
  intro ds h
  rw [Try.params6] at h
  rcases ds with _ | ⟨d0, _ | ⟨d1, _ | ⟨d2, ds⟩⟩⟩ <;> first | rfl | simp at h
theorem consStreams_holds : Rows.ConsStreamsSaid :=
  OpenClaim.holds_of_wide 6 Try.f6 rfl rfl rfl rfl rfl rfl rfl ⟨rfl, rfl, rfl, rfl, rfl⟩ rfl rfl rfl rfl rfl (by kernel_rfl) Try.func6 (by kernel_rfl)
    (of_decide_eq_true (by kernel_rfl)) (by unfold Func.isWrapper; first | (rw [if_pos (by decide +kernel)]; kernel_rfl) | (rw [if_neg (by decide +kernel)]; exact ⟨rfl, rfl⟩))
    (fun os started H enc _ => consStreams_lifted os started H enc)
end Go.Proofs.Ytkjmmbmlapmkbaa
