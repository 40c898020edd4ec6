/- The statement NetdrvBack of the seat: whatever the input, the law returns true and its arguments read as before. No condition. -/
import Derived.Test.YtgcbcnpbnonnjaaRows
import Derived.Test.YtgcbcnpbnonnjaaRd
import Derived.Test.YtgcbcnpbnonnjaaWlNetdrvBack
import Derived.Test.YtgcbcnpbnonnjaaPuNetdrvBack
namespace Go.Proofs.Ytgcbcnpbnonnjaa
open Go.ChangeShapes Go.WideShapes Go.ChangeAt Go.RowKit

theorem Try.own : ownKnob Try.prog.godebug = none := by kernel_rfl
theorem Try.laidOut : laidOutB Try.prog = true := by kernel_rfl

set_option maxRecDepth 100000 in
theorem netdrvBack_lifted (os : Os) (started : os.Started) (H : Type) (enc : TypeId × Value → H) :
    ReturnsInHanded {} Try.checked os 5 .any (Rows.netdrvBackSpec.pre6 enc Try.prog Try.f5 Rows.netdrvBackRow.domain false) (Rows.netdrvBackSpec.post enc Try.prog Try.f5 false true false false) := by
  refine returnsInHanded_of_change (C := Try.checked) Try.own started (by kernel_rfl) Try.func5 (ChangeSpec.witness6 (enc := enc) (C := Try.checked) false ⟨#[], #[.slice none 0 0, .slice none 0 0, .slice none 0 0, .int .u64 0], []⟩ 8 (by kernel_rfl) (by kernel_rfl) (by kernel_rfl) (by kernel_rfl)) ?_
  intro W base args ds gs before hval0 hW hcnd _
  have hW2 : DataW.Whole enc Try.prog Try.f5.params.toList Rows.netdrvBackSpec.vars false W args.toList ds gs before := hW
  have hval : ∀ (j : Nat) t v, Try.f5.params[j]? = some t → args[j]? = some v → Value.okWide Try.prog W .any base t v := hval0
  obtain ⟨p, q, hA0, _⟩ := hW
  have hA : DataW.TrodAll enc Try.prog W 0 (fun _ => true) true Try.f5.params.toList args.toList ds p := hA0
  clear hA0 hval0 hcnd
  rw [Try.params5] at hA hval
  obtain ⟨vs, rfl, hA⟩ := args_list hA
  obtain ⟨a0, vs, d0, ds, p0, q0, rfl, rfl, rfl, g0, hA⟩ := trodAll_cons hA
  obtain ⟨a1, vs, d1, ds, p1, q1, rfl, rfl, rfl, g1, hA⟩ := trodAll_cons hA
  obtain ⟨a2, vs, d2, ds, p2, q2, rfl, rfl, rfl, g2, hA⟩ := trodAll_cons hA
  obtain ⟨a3, vs, d3, ds, p3, q3, rfl, rfl, rfl, g3, hA⟩ := trodAll_cons hA
  obtain ⟨rfl, rfl, rfl⟩ := trodAll_nil hA
  obtain ⟨l, vl1, e0, s0⟩ := open_one rdT58 (noagg_slice Try.underlying58) (hval 0 58 a0 rfl rfl) g0
  obtain rfl := (List.cons.inj e0).1
  obtain ⟨sizes, vsizes1, e1, s1⟩ := open_one rdT23 (noagg_slice Try.underlying23) (hval 1 23 a1 rfl rfl) g1
  obtain rfl := (List.cons.inj e1).1
  obtain ⟨cuts, vcuts1, e2, s2⟩ := open_one rdT23 (noagg_slice Try.underlying23) (hval 2 23 a2 rfl rfl) g2
  obtain rfl := (List.cons.inj e2).1
  obtain ⟨feats, e3⟩ := open_one rdT22 (noagg_int Try.underlying22) (hval 3 22 a3 rfl rfl) g3
  obtain rfl : a3 = vU64 feats := (List.cons.inj (show [a3] = [vU64 feats] from e3)).1
  refine law_calls Try.laidOut (by kernel_rfl) rfl Try.underlying4 rfl ?_ (w_law26zNetdrvBack (t_law26zNetdrvBack l sizes cuts feats)) (facts_cons s0 (facts_cons s1 (facts_cons s2 (facts_nil)))) hW2
  intro ds h
  rw [Try.params5] at h
  rcases ds with _ | ⟨d0, _ | ⟨d1, _ | ⟨d2, _ | ⟨d3, _ | ⟨d4, ds⟩⟩⟩⟩⟩ <;> first | rfl | simp at h
theorem netdrvBack_holds : Rows.NetdrvBackSaid :=
  OpenClaim.holds_of_wide 5 Try.f5 rfl rfl rfl rfl rfl rfl rfl ⟨rfl, rfl, rfl, rfl, rfl⟩ rfl rfl rfl rfl rfl (by kernel_rfl) Try.func5 (by kernel_rfl)
    (of_decide_eq_true (by kernel_rfl)) (by unfold Func.isWrapper; first | (rw [if_pos (by decide +kernel)]; kernel_rfl) | (rw [if_neg (by decide +kernel)]; exact ⟨rfl, rfl⟩))
    (fun os started H enc _ => netdrvBack_lifted os started H enc)
end Go.Proofs.Ytgcbcnpbnonnjaa
