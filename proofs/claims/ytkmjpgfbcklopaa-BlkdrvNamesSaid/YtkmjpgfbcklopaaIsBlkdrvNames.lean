/- The statement BlkdrvNames of the seat: whatever the input, the law returns true and its arguments read as before. No condition. -/
import Derived.Test.YtkmjpgfbcklopaaRows
import Derived.Test.YtkmjpgfbcklopaaRd
import Derived.Test.YtkmjpgfbcklopaaWlBlkdrvNames
import Derived.Test.YtkmjpgfbcklopaaPuBlkdrvNames
namespace Go.Proofs.Ytkmjpgfbcklopaa
open Go.ChangeShapes Go.WideShapes Go.ChangeAt Go.RowKit

theorem Try.own : ownKnob Try.prog.godebug = none := by kernel_rfl
theorem Try.laidOut : laidOutB Try.prog = true := by kernel_rfl

set_option maxRecDepth 100000 in
theorem blkdrvNames_lifted (os : Os) (started : os.Started) (H : Type) (enc : TypeId × Value → H) :
    ReturnsInHanded {} Try.checked os 5 .any (Rows.blkdrvNamesSpec.pre6 enc Try.prog Try.f5 Rows.blkdrvNamesRow.domain false) (Rows.blkdrvNamesSpec.post enc Try.prog Try.f5 false true false false) := by
  refine returnsInHanded_of_change (C := Try.checked) Try.own started (by kernel_rfl) Try.func5 (ChangeSpec.witness6 (enc := enc) (C := Try.checked) false ⟨#[], #[], []⟩ 8 (by kernel_rfl) (by kernel_rfl) (by kernel_rfl) (by kernel_rfl)) ?_
  intro W base args ds gs before hval0 hW hcnd _
  have hW2 : DataW.Whole enc Try.prog Try.f5.params.toList Rows.blkdrvNamesSpec.vars false W args.toList ds gs before := hW
  have hval : ∀ (j : Nat) t v, Try.f5.params[j]? = some t → args[j]? = some v → Value.okWide Try.prog W .any base t v := hval0
  obtain ⟨p, q, hA0, _⟩ := hW
  have hA : DataW.TrodAll enc Try.prog W 0 (fun _ => true) true Try.f5.params.toList args.toList ds p := hA0
  clear hA0 hval0 hcnd
  rw [Try.params5] at hA hval
  obtain ⟨vs, rfl, hA⟩ := args_list hA
  obtain ⟨rfl, rfl, rfl⟩ := trodAll_nil hA
  refine law_calls Try.laidOut (by kernel_rfl) rfl Try.underlying4 rfl ?_ (w_law22zBlkdrvNames (t_law22zBlkdrvNames)) (facts_nil) hW2
  intro ds h
  rw [Try.params5] at h
  rcases ds with _ | ⟨d0, ds⟩ <;> first | rfl | simp at h
theorem blkdrvNames_holds : Rows.BlkdrvNamesSaid :=
  OpenClaim.holds_of_wide 5 Try.f5 rfl rfl rfl rfl rfl rfl rfl ⟨rfl, rfl, rfl, rfl, rfl⟩ rfl rfl rfl rfl rfl (by kernel_rfl) Try.func5 (by kernel_rfl)
    (of_decide_eq_true (by kernel_rfl)) (by unfold Func.isWrapper; first | (rw [if_pos (by decide +kernel)]; kernel_rfl) | (rw [if_neg (by decide +kernel)]; exact ⟨rfl, rfl⟩))
    (fun os started H enc _ => blkdrvNames_lifted os started H enc)
end Go.Proofs.Ytkmjpgfbcklopaa
