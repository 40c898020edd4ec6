/- The statement BlkNames of the seat: whatever the input, the law returns true and its arguments read as before. No condition. -/
import Derived.Test.YtjfdamiilndgeaaRows
import Derived.Test.YtjfdamiilndgeaaRd
import Derived.Test.YtjfdamiilndgeaaWlBlkNames
import Derived.Test.YtjfdamiilndgeaaGp1
namespace Go.Proofs.Ytjfdamiilndgeaa
open Go.ChangeShapes Go.WideShapes Go.ChangeAt Go.RowKit

theorem Try.own : ownKnob Try.prog.godebug = none := by kernel_rfl
theorem Try.laidOut : laidOutB Try.prog = true := by kernel_rfl

set_option maxRecDepth 100000 in
theorem blkNames_lifted (os : Os) (started : os.Started) (H : Type) (enc : TypeId × Value → H) :
    ReturnsInHanded {} Try.checked os 3 .any (Rows.blkNamesSpec.pre6 enc Try.prog Try.f3 Rows.blkNamesRow.domain false) (Rows.blkNamesSpec.post enc Try.prog Try.f3 false true false false) := by
  refine returnsInHanded_of_change (C := Try.checked) Try.own started (by kernel_rfl) Try.func3 (ChangeSpec.witness6 (enc := enc) (C := Try.checked) false ⟨#[], #[], []⟩ 8 (by kernel_rfl) (by kernel_rfl) (by kernel_rfl) (by kernel_rfl)) ?_
  intro W base args ds gs before hval0 hW hcnd _
  have hW2 : DataW.Whole enc Try.prog Try.f3.params.toList Rows.blkNamesSpec.vars false W args.toList ds gs before := hW
  have hval : ∀ (j : Nat) t v, Try.f3.params[j]? = some t → args[j]? = some v → Value.okWide Try.prog W .any base t v := hval0
  obtain ⟨p, q, hA0, _⟩ := hW
  have hA : DataW.TrodAll enc Try.prog W 0 (fun _ => true) true Try.f3.params.toList args.toList ds p := hA0
  clear hA0 hval0 hcnd
  rw [Try.params3] at hA hval
  obtain ⟨vs, rfl, hA⟩ := args_list hA
  obtain ⟨rfl, rfl, rfl⟩ := trodAll_nil hA
  refine law_calls Try.laidOut (by kernel_rfl) rfl Try.underlying4 rfl ?_ (w_law21zBlkNames (t_law21zBlkNames)) (facts_nil) hW2
  intro ds h
  rw [Try.params3] at h
  rcases ds with _ | ⟨d0, ds⟩ <;> first | rfl | simp at h
theorem blkNames_holds : Rows.BlkNamesSaid :=
  OpenClaim.holds_of_wide 3 Try.f3 rfl rfl rfl rfl rfl rfl rfl ⟨rfl, rfl, rfl, rfl, rfl⟩ rfl rfl rfl rfl rfl (by kernel_rfl) Try.func3 (by kernel_rfl)
    (of_decide_eq_true (by kernel_rfl)) (by unfold Func.isWrapper; first | (rw [if_pos (by decide +kernel)]; kernel_rfl) | (rw [if_neg (by decide +kernel)]; exact ⟨rfl, rfl⟩))
    (fun os started H enc _ => blkNames_lifted os started H enc)
end Go.Proofs.Ytjfdamiilndgeaa
