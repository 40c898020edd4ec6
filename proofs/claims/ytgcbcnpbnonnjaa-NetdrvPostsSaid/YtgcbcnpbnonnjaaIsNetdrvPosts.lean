/- The statement NetdrvPosts of the seat: whatever the input, the law returns true and its arguments read as before. No condition. -/
import Derived.Test.YtgcbcnpbnonnjaaRows
import Derived.Test.YtgcbcnpbnonnjaaRd
import Derived.Test.YtgcbcnpbnonnjaaWlNetdrvPosts
import Derived.Test.YtgcbcnpbnonnjaaPuNetdrvPosts
namespace Go.Proofs.Ytgcbcnpbnonnjaa
open Go.ChangeShapes Go.WideShapes Go.ChangeAt Go.RowKit

theorem Try.own : ownKnob Try.prog.godebug = none := by kernel_rfl
theorem Try.laidOut : laidOutB Try.prog = true := by kernel_rfl

set_option maxRecDepth 100000 in
theorem netdrvPosts_lifted (os : Os) (started : os.Started) (H : Type) (enc : TypeId × Value → H) :
    ReturnsInHanded {} Try.checked os 3 .any (Rows.netdrvPostsSpec.pre6 enc Try.prog Try.f3 Rows.netdrvPostsRow.domain false) (Rows.netdrvPostsSpec.post enc Try.prog Try.f3 false true false false) := by
  refine returnsInHanded_of_change (C := Try.checked) Try.own started (by kernel_rfl) Try.func3 (ChangeSpec.witness6 (enc := enc) (C := Try.checked) false ⟨#[], #[.int .u64 0, .int .i64 0, .slice none 0 0], []⟩ 8 (by kernel_rfl) (by kernel_rfl) (by kernel_rfl) (by kernel_rfl)) ?_
  intro W base args ds gs before hval0 hW hcnd _
  have hW2 : DataW.Whole enc Try.prog Try.f3.params.toList Rows.netdrvPostsSpec.vars false W args.toList ds gs before := hW
  have hval : ∀ (j : Nat) t v, Try.f3.params[j]? = some t → args[j]? = some v → Value.okWide Try.prog W .any base t v := hval0
  obtain ⟨p, q, hA0, _⟩ := hW
  have hA : DataW.TrodAll enc Try.prog W 0 (fun _ => true) true Try.f3.params.toList args.toList ds p := hA0
  clear hA0 hval0 hcnd
  rw [Try.params3] at hA hval
  obtain ⟨vs, rfl, hA⟩ := args_list hA
  obtain ⟨a0, vs, d0, ds, p0, q0, rfl, rfl, rfl, g0, hA⟩ := trodAll_cons hA
  obtain ⟨a1, vs, d1, ds, p1, q1, rfl, rfl, rfl, g1, hA⟩ := trodAll_cons hA
  obtain ⟨a2, vs, d2, ds, p2, q2, rfl, rfl, rfl, g2, hA⟩ := trodAll_cons hA
  obtain ⟨rfl, rfl, rfl⟩ := trodAll_nil hA
  obtain ⟨atp0, e0⟩ := open_one rdT22 (noagg_int Try.underlying22) (hval 0 22 a0 rfl rfl) g0
  obtain rfl : a0 = vU64 atp0 := (List.cons.inj (show [a0] = [vU64 atp0] from e0)).1
  obtain ⟨np1, e1⟩ := open_one rdT3 (noagg_int Try.underlying3) (hval 1 3 a1 rfl rfl) g1
  obtain rfl : a1 = vI np1 := (List.cons.inj (show [a1] = [vI np1] from e1)).1
  obtain ⟨cuts, vcuts1, e2, s2⟩ := open_one rdT23 (noagg_slice Try.underlying23) (hval 2 23 a2 rfl rfl) g2
  obtain rfl := (List.cons.inj e2).1
  refine law_calls Try.laidOut (by kernel_rfl) rfl Try.underlying4 rfl ?_ (w_law26zNetdrvPosts (t_law26zNetdrvPosts atp0 np1 cuts)) (facts_cons s2 (facts_nil)) hW2
  intro ds h
  rw [Try.params3] at h
  rcases ds with _ | ⟨d0, _ | ⟨d1, _ | ⟨d2, _ | ⟨d3, ds⟩⟩⟩⟩ <;> first | rfl | simp at h
theorem netdrvPosts_holds : Rows.NetdrvPostsSaid :=
  OpenClaim.holds_of_wide 3 Try.f3 rfl rfl rfl rfl rfl rfl rfl ⟨rfl, rfl, rfl, rfl, rfl⟩ rfl rfl rfl rfl rfl (by kernel_rfl) Try.func3 (by kernel_rfl)
    (of_decide_eq_true (by kernel_rfl)) (by unfold Func.isWrapper; first | (rw [if_pos (by decide +kernel)]; kernel_rfl) | (rw [if_neg (by decide +kernel)]; exact ⟨rfl, rfl⟩))
    (fun os started H enc _ => netdrvPosts_lifted os started H enc)
end Go.Proofs.Ytgcbcnpbnonnjaa
