/- The statement GmemNil of the seat: whatever the input, the law returns true and its arguments read as before. No condition. -/
import Derived.Test.YtecmlfmbmligeaaRows
import Derived.Test.YtecmlfmbmligeaaRd
import Derived.Test.YtecmlfmbmligeaaWlGmemNil
import Derived.Test.YtecmlfmbmligeaaPuGmemNil
namespace Go.Proofs.Ytecmlfmbmligeaa
open Go.ChangeShapes Go.WideShapes Go.ChangeAt Go.RowKit

theorem Try.own : ownKnob Try.prog.godebug = none := by kernel_rfl
theorem Try.laidOut : laidOutB Try.prog = true := by kernel_rfl

set_option maxRecDepth 100000 in
theorem gmemNil_lifted (os : Os) (started : os.Started) (H : Type) (enc : TypeId × Value → H) :
    ReturnsInHanded {} Try.checked os 7 .any (Rows.gmemNilSpec.pre6 enc Try.prog Try.f7 Rows.gmemNilRow.domain false) (Rows.gmemNilSpec.post enc Try.prog Try.f7 false true false false) := by
  refine returnsInHanded_of_change (C := Try.checked) Try.own started (by kernel_rfl) Try.func7 (ChangeSpec.witness6 (enc := enc) (C := Try.checked) false ⟨#[], #[.int .u64 0, .int .i64 0, .slice none 0 0], []⟩ 8 (by kernel_rfl) (by kernel_rfl) (by kernel_rfl) (by kernel_rfl)) ?_
  intro W base args ds gs before hval0 hW hcnd _
  have hW2 : DataW.Whole enc Try.prog Try.f7.params.toList Rows.gmemNilSpec.vars false W args.toList ds gs before := hW
  have hval : ∀ (j : Nat) t v, Try.f7.params[j]? = some t → args[j]? = some v → Value.okWide Try.prog W .any base t v := hval0
  obtain ⟨p, q, hA0, _⟩ := hW
  have hA : DataW.TrodAll enc Try.prog W 0 (fun _ => true) true Try.f7.params.toList args.toList ds p := hA0
  clear hA0 hval0 hcnd
  rw [Try.params7] at hA hval
  obtain ⟨vs, rfl, hA⟩ := args_list hA
  obtain ⟨a0, vs, d0, ds, p0, q0, rfl, rfl, rfl, g0, hA⟩ := trodAll_cons hA
  obtain ⟨a1, vs, d1, ds, p1, q1, rfl, rfl, rfl, g1, hA⟩ := trodAll_cons hA
  obtain ⟨a2, vs, d2, ds, p2, q2, rfl, rfl, rfl, g2, hA⟩ := trodAll_cons hA
  obtain ⟨rfl, rfl, rfl⟩ := trodAll_nil hA
  obtain ⟨atp0, e0⟩ := open_one rdT26 (noagg_int Try.underlying26) (hval 0 26 a0 rfl rfl) g0
  obtain rfl : a0 = vU64 atp0 := (List.cons.inj (show [a0] = [vU64 atp0] from e0)).1
  obtain ⟨np1, e1⟩ := open_one rdT3 (noagg_int Try.underlying3) (hval 1 3 a1 rfl rfl) g1
  obtain rfl : a1 = vI np1 := (List.cons.inj (show [a1] = [vI np1] from e1)).1
  obtain ⟨b, vb1, e2, s2⟩ := open_one rdT38 (noagg_slice Try.underlying38) (hval 2 38 a2 rfl rfl) g2
  obtain rfl := (List.cons.inj e2).1
  refine law_calls Try.laidOut (by kernel_rfl) rfl Try.underlying4 rfl ?_ (w_law02zGmemNil (t_law02zGmemNil atp0 np1 b)) (facts_cons s2 (facts_nil)) hW2
  intro ds h
  rw [Try.params7] at h
  rcases ds with _ | ⟨d0, _ | ⟨d1, _ | ⟨d2, _ | ⟨d3, ds⟩⟩⟩⟩ <;> first | rfl | simp at h
theorem gmemNil_holds : Rows.GmemNilSaid :=
  OpenClaim.holds_of_wide 7 Try.f7 rfl rfl rfl rfl rfl rfl rfl ⟨rfl, rfl, rfl, rfl, rfl⟩ rfl rfl rfl rfl rfl (by kernel_rfl) Try.func7 (by kernel_rfl)
    (of_decide_eq_true (by kernel_rfl)) (by unfold Func.isWrapper; first | (rw [if_pos (by decide +kernel)]; kernel_rfl) | (rw [if_neg (by decide +kernel)]; exact ⟨rfl, rfl⟩))
    (fun os started H enc _ => gmemNil_lifted os started H enc)
end Go.Proofs.Ytecmlfmbmligeaa
