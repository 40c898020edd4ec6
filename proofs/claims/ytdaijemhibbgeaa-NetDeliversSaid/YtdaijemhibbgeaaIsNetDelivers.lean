/- The statement NetDelivers of the seat: whatever the input, the law returns true and its arguments read as before. No condition. -/
import Derived.Test.YtdaijemhibbgeaaRows
import Derived.Test.YtdaijemhibbgeaaRd
import Derived.Test.YtdaijemhibbgeaaWlNetDelivers
import Derived.Test.YtdaijemhibbgeaaPuNetDelivers
namespace Go.Proofs.Ytdaijemhibbgeaa
open Go.ChangeShapes Go.WideShapes Go.ChangeAt Go.RowKit

theorem Try.own : ownKnob Try.prog.godebug = none := by kernel_rfl
theorem Try.laidOut : laidOutB Try.prog = true := by kernel_rfl

set_option maxRecDepth 100000 in
theorem netDelivers_lifted (os : Os) (started : os.Started) (H : Type) (enc : TypeId × Value → H) :
    ReturnsInHanded {} Try.checked os 3 .any (Rows.netDeliversSpec.pre6 enc Try.prog Try.f3 Rows.netDeliversRow.domain false) (Rows.netDeliversSpec.post enc Try.prog Try.f3 false true false false) := by
  refine returnsInHanded_of_change (C := Try.checked) Try.own started (by kernel_rfl) Try.func3 (ChangeSpec.witness6 (enc := enc) (C := Try.checked) false ⟨#[], #[.agg #[.int .u8 0, .int .u8 0, .int .u8 0, .int .u8 0, .int .u8 0, .int .u8 0, .int .u8 0, .int .u8 0, .int .u8 0, .int .u8 0, .int .u8 0, .int .u8 0, .int .i64 0, .int .u16 0, .slice none 0 0], .slice none 0 0, .int .u64 0, .int .u8 0], []⟩ 8 (by kernel_rfl) (by kernel_rfl) (by kernel_rfl) (by kernel_rfl)) ?_
  intro W base args ds gs before hval0 hW hcnd _
  have hW2 : DataW.Whole enc Try.prog Try.f3.params.toList Rows.netDeliversSpec.vars false W args.toList ds gs before := hW
  have hval : ∀ (j : Nat) t v, Try.f3.params[j]? = some t → args[j]? = some v → Value.okWide Try.prog W .any base t v := hval0
  obtain ⟨p, q, hA0, _⟩ := hW
  have hA : DataW.TrodAll enc Try.prog W 0 (fun _ => true) true Try.f3.params.toList args.toList ds p := hA0
  clear hA0 hval0 hcnd
  rw [Try.params3] at hA hval
  obtain ⟨vs, rfl, hA⟩ := args_list hA
  obtain ⟨a0, vs, d0, ds, p0, q0, rfl, rfl, rfl, g0, hA⟩ := trodAll_cons hA
  obtain ⟨a1, vs, d1, ds, p1, q1, rfl, rfl, rfl, g1, hA⟩ := trodAll_cons hA
  obtain ⟨a2, vs, d2, ds, p2, q2, rfl, rfl, rfl, g2, hA⟩ := trodAll_cons hA
  obtain ⟨a3, vs, d3, ds, p3, q3, rfl, rfl, rfl, g3, hA⟩ := trodAll_cons hA
  obtain ⟨rfl, rfl, rfl⟩ := trodAll_nil hA
  obtain ⟨f, cs0, e0, s0⟩ := open_agg rdT26 (agg_struct Try.underlying26 (hval 0 26 a0 rfl rfl)) g0
  obtain ⟨vf1, ee0, s0⟩ := s0
  obtain rfl : cs0 = [vU8 f.Dst.a0, vU8 f.Dst.a1, vU8 f.Dst.a2, vU8 f.Dst.a3, vU8 f.Dst.a4, vU8 f.Dst.a5, vU8 f.Src.a0, vU8 f.Src.a1, vU8 f.Src.a2, vU8 f.Src.a3, vU8 f.Src.a4, vU8 f.Src.a5, vI f.Vlan, vU16 f.Type_, vf1] := ee0
  subst e0
  obtain ⟨l, vl1, e1, s1⟩ := open_one rdT27 (noagg_slice Try.underlying27) (hval 1 27 a1 rfl rfl) g1
  obtain rfl := (List.cons.inj e1).1
  obtain ⟨feats, e2⟩ := open_one rdT28 (noagg_int Try.underlying28) (hval 2 28 a2 rfl rfl) g2
  obtain rfl : a2 = vU64 feats := (List.cons.inj (show [a2] = [vU64 feats] from e2)).1
  obtain ⟨vp3, e3⟩ := open_one rdT5 (noagg_int Try.underlying5) (hval 3 5 a3 rfl rfl) g3
  obtain rfl : a3 = vU8 vp3 := (List.cons.inj (show [a3] = [vU8 vp3] from e3)).1
  refine law_calls Try.laidOut (by kernel_rfl) rfl Try.underlying4 rfl ?_ (w_law25zNetDelivers (t_law25zNetDelivers f l feats vp3)) (facts_cons s0 (facts_cons s1 (facts_nil))) hW2
  intro ds h
  rw [Try.params3] at h
  rcases ds with _ | ⟨d0, _ | ⟨d1, _ | ⟨d2, _ | ⟨d3, _ | ⟨d4, ds⟩⟩⟩⟩⟩ <;> first | rfl | simp at h
theorem netDelivers_holds : Rows.NetDeliversSaid :=
  OpenClaim.holds_of_wide 3 Try.f3 rfl rfl rfl rfl rfl rfl rfl ⟨rfl, rfl, rfl, rfl, rfl⟩ rfl rfl rfl rfl rfl (by kernel_rfl) Try.func3 (by kernel_rfl)
    (of_decide_eq_true (by kernel_rfl)) (by unfold Func.isWrapper; first | (rw [if_pos (by decide +kernel)]; kernel_rfl) | (rw [if_neg (by decide +kernel)]; exact ⟨rfl, rfl⟩))
    (fun os started H enc _ => netDelivers_lifted os started H enc)
end Go.Proofs.Ytdaijemhibbgeaa
