/- The statement NetSums of the seat: whatever the input, the law returns true and its arguments read as before. No condition. -/
import Derived.Test.YtdaijemhibbgeaaRows
import Derived.Test.YtdaijemhibbgeaaRd
import Derived.Test.YtdaijemhibbgeaaWlNetSums
import Derived.Test.YtdaijemhibbgeaaPuNetSums
namespace Go.Proofs.Ytdaijemhibbgeaa
open Go.ChangeShapes Go.WideShapes Go.ChangeAt Go.RowKit

theorem Try.own : ownKnob Try.prog.godebug = none := by kernel_rfl
theorem Try.laidOut : laidOutB Try.prog = true := by kernel_rfl

set_option maxRecDepth 100000 in
theorem netSums_lifted (os : Os) (started : os.Started) (H : Type) (enc : TypeId × Value → H) :
    ReturnsInHanded {} Try.checked os 4 .any (Rows.netSumsSpec.pre6 enc Try.prog Try.f4 Rows.netSumsRow.domain false) (Rows.netSumsSpec.post enc Try.prog Try.f4 false true false false) := by
  refine returnsInHanded_of_change (C := Try.checked) Try.own started (by kernel_rfl) Try.func4 (ChangeSpec.witness6 (enc := enc) (C := Try.checked) false ⟨#[], #[.agg #[.int .u8 0, .int .u8 0, .int .u8 0, .int .u8 0, .int .u8 0, .int .u8 0, .int .u8 0, .int .u8 0, .int .u8 0, .int .u8 0, .int .u8 0, .int .u8 0, .int .i64 0, .int .u16 0, .slice none 0 0], .int .i64 0], []⟩ 8 (by kernel_rfl) (by kernel_rfl) (by kernel_rfl) (by kernel_rfl)) ?_
  intro W base args ds gs before hval0 hW hcnd _
  have hW2 : DataW.Whole enc Try.prog Try.f4.params.toList Rows.netSumsSpec.vars false W args.toList ds gs before := hW
  have hval : ∀ (j : Nat) t v, Try.f4.params[j]? = some t → args[j]? = some v → Value.okWide Try.prog W .any base t v := hval0
  obtain ⟨p, q, hA0, _⟩ := hW
  have hA : DataW.TrodAll enc Try.prog W 0 (fun _ => true) true Try.f4.params.toList args.toList ds p := hA0
  clear hA0 hval0 hcnd
  rw [Try.params4] at hA hval
  obtain ⟨vs, rfl, hA⟩ := args_list hA
  obtain ⟨a0, vs, d0, ds, p0, q0, rfl, rfl, rfl, g0, hA⟩ := trodAll_cons hA
  obtain ⟨a1, vs, d1, ds, p1, q1, rfl, rfl, rfl, g1, hA⟩ := trodAll_cons hA
  obtain ⟨rfl, rfl, rfl⟩ := trodAll_nil hA
  obtain ⟨f, cs0, e0, s0⟩ := open_agg rdT26 (agg_struct Try.underlying26 (hval 0 26 a0 rfl rfl)) g0
  obtain ⟨vf1, ee0, s0⟩ := s0
  obtain rfl : cs0 = [vU8 f.Dst.a0, vU8 f.Dst.a1, vU8 f.Dst.a2, vU8 f.Dst.a3, vU8 f.Dst.a4, vU8 f.Dst.a5, vU8 f.Src.a0, vU8 f.Src.a1, vU8 f.Src.a2, vU8 f.Src.a3, vU8 f.Src.a4, vU8 f.Src.a5, vI f.Vlan, vU16 f.Type_, vf1] := ee0
  subst e0
  obtain ⟨off, e1⟩ := open_one rdT3 (noagg_int Try.underlying3) (hval 1 3 a1 rfl rfl) g1
  obtain rfl : a1 = vI off := (List.cons.inj (show [a1] = [vI off] from e1)).1
  refine law_calls Try.laidOut (by kernel_rfl) rfl Try.underlying4 rfl ?_ (w_law25zNetSums (t_law25zNetSums f off)) (facts_cons s0 (facts_nil)) hW2
  intro ds h
  rw [Try.params4] at h
  rcases ds with _ | ⟨d0, _ | ⟨d1, _ | ⟨d2, ds⟩⟩⟩ <;> first | rfl | simp at h
theorem netSums_holds : Rows.NetSumsSaid :=
  OpenClaim.holds_of_wide 4 Try.f4 rfl rfl rfl rfl rfl rfl rfl ⟨rfl, rfl, rfl, rfl, rfl⟩ rfl rfl rfl rfl rfl (by kernel_rfl) Try.func4 (by kernel_rfl)
    (of_decide_eq_true (by kernel_rfl)) (by unfold Func.isWrapper; first | (rw [if_pos (by decide +kernel)]; kernel_rfl) | (rw [if_neg (by decide +kernel)]; exact ⟨rfl, rfl⟩))
    (fun os started H enc _ => netSums_lifted os started H enc)
end Go.Proofs.Ytdaijemhibbgeaa
