/- The statement NetConfigs of the seat: whatever the input, the law returns true and its arguments read as before. No condition. -/
import Derived.Test.YtdaijemhibbgeaaRows
import Derived.Test.YtdaijemhibbgeaaRd
import Derived.Test.YtdaijemhibbgeaaWlNetConfigs
import Derived.Test.YtdaijemhibbgeaaPuNetConfigs
namespace Go.Proofs.Ytdaijemhibbgeaa
open Go.ChangeShapes Go.WideShapes Go.ChangeAt Go.RowKit

theorem Try.own : ownKnob Try.prog.godebug = none := by kernel_rfl
theorem Try.laidOut : laidOutB Try.prog = true := by kernel_rfl

set_option maxRecDepth 100000 in
theorem netConfigs_lifted (os : Os) (started : os.Started) (H : Type) (enc : TypeId × Value → H) :
    ReturnsInHanded {} Try.checked os 5 .any (Rows.netConfigsSpec.pre6 enc Try.prog Try.f5 Rows.netConfigsRow.domain false) (Rows.netConfigsSpec.post enc Try.prog Try.f5 false true false false) := by
  refine returnsInHanded_of_change (C := Try.checked) Try.own started (by kernel_rfl) Try.func5 (ChangeSpec.witness6 (enc := enc) (C := Try.checked) false ⟨#[], #[.agg #[.int .u8 0, .int .u8 0, .int .u8 0, .int .u8 0, .int .u8 0, .int .u8 0], .bool false, .agg #[.int .u8 0, .int .u8 0, .int .u8 0, .int .u8 0, .int .u8 0, .int .u8 0, .int .u8 0, .int .u8 0, .int .u8 0, .int .u8 0, .int .u8 0, .int .u8 0, .int .i64 0, .int .u16 0, .slice none 0 0], .agg #[.int .u8 0, .int .u16 0, .int .u16 0, .int .u16 0], .int .u64 0], []⟩ 8 (by kernel_rfl) (by kernel_rfl) (by kernel_rfl) (by kernel_rfl)) ?_
  intro W base args ds gs before hval0 hW hcnd _
  have hW2 : DataW.Whole enc Try.prog Try.f5.params.toList Rows.netConfigsSpec.vars false W args.toList ds gs before := hW
  have hval : ∀ (j : Nat) t v, Try.f5.params[j]? = some t → args[j]? = some v → Value.okWide Try.prog W .any base t v := hval0
  obtain ⟨p, q, hA0, _⟩ := hW
  have hA : DataW.TrodAll enc Try.prog W 0 (fun _ => true) true Try.f5.params.toList args.toList ds p := hA0
  clear hA0 hval0 hcnd
  rw [Try.params5] at hA hval
  obtain ⟨vs, rfl, hA⟩ := args_list hA
  obtain ⟨a0, vs, d0, ds, p0, q0, rfl, rfl, rfl, g0, hA⟩ := trodAll_cons hA
  obtain ⟨a1, vs, d1, ds, p1, q1, rfl, rfl, rfl, g1, hA⟩ := trodAll_cons hA
  obtain ⟨a2, vs, d2, ds, p2, q2, rfl, rfl, rfl, g2, hA⟩ := trodAll_cons hA
  obtain ⟨a3, vs, d3, ds, p3, q3, rfl, rfl, rfl, g3, hA⟩ := trodAll_cons hA
  obtain ⟨a4, vs, d4, ds, p4, q4, rfl, rfl, rfl, g4, hA⟩ := trodAll_cons hA
  obtain ⟨rfl, rfl, rfl⟩ := trodAll_nil hA
  obtain ⟨mac, cs0, e0, s0⟩ := open_agg rdT22 (agg_array Try.underlying22 (hval 0 22 a0 rfl rfl)) g0
  obtain rfl : cs0 = [vU8 mac.a0, vU8 mac.a1, vU8 mac.a2, vU8 mac.a3, vU8 mac.a4, vU8 mac.a5] := s0
  subst e0
  obtain ⟨up, e1⟩ := open_one rdT4 (noagg_bool Try.underlying4) (hval 1 4 a1 rfl rfl) g1
  obtain rfl : a1 = vB up := (List.cons.inj (show [a1] = [vB up] from e1)).1
  obtain ⟨f, cs2, e2, s2⟩ := open_agg rdT26 (agg_struct Try.underlying26 (hval 2 26 a2 rfl rfl)) g2
  obtain ⟨vf1, ee2, s2⟩ := s2
  obtain rfl : cs2 = [vU8 f.Dst.a0, vU8 f.Dst.a1, vU8 f.Dst.a2, vU8 f.Dst.a3, vU8 f.Dst.a4, vU8 f.Dst.a5, vU8 f.Src.a0, vU8 f.Src.a1, vU8 f.Src.a2, vU8 f.Src.a3, vU8 f.Src.a4, vU8 f.Src.a5, vI f.Vlan, vU16 f.Type_, vf1] := ee2
  subst e2
  obtain ⟨hp3, cs3, e3, s3⟩ := open_agg rdT50 (agg_struct Try.underlying50 (hval 3 50 a3 rfl rfl)) g3
  obtain rfl : cs3 = [vU8 hp3.Flags, vU16 hp3.Start, vU16 hp3.Off, vU16 hp3.Buffers] := s3
  subst e3
  obtain ⟨feats, e4⟩ := open_one rdT28 (noagg_int Try.underlying28) (hval 4 28 a4 rfl rfl) g4
  obtain rfl : a4 = vU64 feats := (List.cons.inj (show [a4] = [vU64 feats] from e4)).1
  refine law_calls Try.laidOut (by kernel_rfl) rfl Try.underlying4 rfl ?_ (w_law25zNetConfigs (t_law25zNetConfigs mac up f hp3 feats)) (facts_cons s2 (facts_nil)) hW2
  intro ds h
  rw [Try.params5] at h
  rcases ds with _ | ⟨d0, _ | ⟨d1, _ | ⟨d2, _ | ⟨d3, _ | ⟨d4, _ | ⟨d5, ds⟩⟩⟩⟩⟩⟩ <;> first | rfl | simp at h
theorem netConfigs_holds : Rows.NetConfigsSaid :=
  OpenClaim.holds_of_wide 5 Try.f5 rfl rfl rfl rfl rfl rfl rfl ⟨rfl, rfl, rfl, rfl, rfl⟩ rfl rfl rfl rfl rfl (by kernel_rfl) Try.func5 (by kernel_rfl)
    (of_decide_eq_true (by kernel_rfl)) (by unfold Func.isWrapper; first | (rw [if_pos (by decide +kernel)]; kernel_rfl) | (rw [if_neg (by decide +kernel)]; exact ⟨rfl, rfl⟩))
    (fun os started H enc _ => netConfigs_lifted os started H enc)
end Go.Proofs.Ytdaijemhibbgeaa
