/- The statement BlkBack of the seat: whatever the input, the law returns true and its arguments read as before. No condition. -/
import Derived.Test.YtjfdamiilndgeaaRows
import Derived.Test.YtjfdamiilndgeaaRd
import Derived.Test.YtjfdamiilndgeaaWlBlkBack
import Derived.Test.YtjfdamiilndgeaaGp1
namespace Go.Proofs.Ytjfdamiilndgeaa
open Go.ChangeShapes Go.WideShapes Go.ChangeAt Go.RowKit

theorem Try.own : ownKnob Try.prog.godebug = none := by kernel_rfl
theorem Try.laidOut : laidOutB Try.prog = true := by kernel_rfl

set_option maxRecDepth 100000 in
theorem blkBack_lifted (os : Os) (started : os.Started) (H : Type) (enc : TypeId × Value → H) :
    ReturnsInHanded {} Try.checked os 4 .any (Rows.blkBackSpec.pre6 enc Try.prog Try.f4 Rows.blkBackRow.domain false) (Rows.blkBackSpec.post enc Try.prog Try.f4 false true false false) := by
  refine returnsInHanded_of_change (C := Try.checked) Try.own started (by kernel_rfl) Try.func4 (ChangeSpec.witness6 (enc := enc) (C := Try.checked) false ⟨#[], #[.agg #[.int .u32 0, .int .u64 0, .slice none 0 0, .int .i64 0, .slice none 0 0], .agg #[.int .u32 0, .int .u64 0, .slice none 0 0, .int .i64 0, .slice none 0 0]], []⟩ 8 (by kernel_rfl) (by kernel_rfl) (by kernel_rfl) (by kernel_rfl)) ?_
  intro W base args ds gs before hval0 hW hcnd _
  have hW2 : DataW.Whole enc Try.prog Try.f4.params.toList Rows.blkBackSpec.vars false W args.toList ds gs before := hW
  have hval : ∀ (j : Nat) t v, Try.f4.params[j]? = some t → args[j]? = some v → Value.okWide Try.prog W .any base t v := hval0
  obtain ⟨p, q, hA0, _⟩ := hW
  have hA : DataW.TrodAll enc Try.prog W 0 (fun _ => true) true Try.f4.params.toList args.toList ds p := hA0
  clear hA0 hval0 hcnd
  rw [Try.params4] at hA hval
  obtain ⟨vs, rfl, hA⟩ := args_list hA
  obtain ⟨a0, vs, d0, ds, p0, q0, rfl, rfl, rfl, g0, hA⟩ := trodAll_cons hA
  obtain ⟨a1, vs, d1, ds, p1, q1, rfl, rfl, rfl, g1, hA⟩ := trodAll_cons hA
  obtain ⟨rfl, rfl, rfl⟩ := trodAll_nil hA
  obtain ⟨rp0, cs0, e0, s0⟩ := open_agg rdT35 (agg_struct Try.underlying35 (hval 0 35 a0 rfl rfl)) g0
  obtain ⟨vrp01, vrp02, ee0, s0x0, s0x1⟩ := s0
  obtain rfl : cs0 = [vU32 rp0.Type_, vU64 rp0.Sector, vrp01, vI rp0.Room, vrp02] := ee0
  subst e0
  obtain ⟨op1, cs1, e1, s1⟩ := open_agg rdT35 (agg_struct Try.underlying35 (hval 1 35 a1 rfl rfl)) g1
  obtain ⟨vop11, vop12, ee1, s1x0, s1x1⟩ := s1
  obtain rfl : cs1 = [vU32 op1.Type_, vU64 op1.Sector, vop11, vI op1.Room, vop12] := ee1
  subst e1
  refine law_calls Try.laidOut (by kernel_rfl) rfl Try.underlying4 rfl ?_ (w_law21zBlkBack (t_law21zBlkBack rp0 op1)) (facts_cons s0x0 (facts_cons s0x1 (facts_cons s1x0 (facts_cons s1x1 (facts_nil))))) hW2
  intro ds h
  rw [Try.params4] at h
  rcases ds with _ | ⟨d0, _ | ⟨d1, _ | ⟨d2, ds⟩⟩⟩ <;> first | rfl | simp at h
theorem blkBack_holds : Rows.BlkBackSaid :=
  OpenClaim.holds_of_wide 4 Try.f4 rfl rfl rfl rfl rfl rfl rfl ⟨rfl, rfl, rfl, rfl, rfl⟩ rfl rfl rfl rfl rfl (by kernel_rfl) Try.func4 (by kernel_rfl)
    (of_decide_eq_true (by kernel_rfl)) (by unfold Func.isWrapper; first | (rw [if_pos (by decide +kernel)]; kernel_rfl) | (rw [if_neg (by decide +kernel)]; exact ⟨rfl, rfl⟩))
    (fun os started H enc _ => blkBack_lifted os started H enc)
end Go.Proofs.Ytjfdamiilndgeaa
