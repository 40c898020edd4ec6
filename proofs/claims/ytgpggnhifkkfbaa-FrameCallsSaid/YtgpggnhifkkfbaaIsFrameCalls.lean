/- The statement FrameCalls of the seat: whatever the input, the law returns true and its arguments read as before. No condition. -/
import Derived.Test.YtgpggnhifkkfbaaRows
import Derived.Test.YtgpggnhifkkfbaaRd
import Derived.Test.YtgpggnhifkkfbaaWlFrameCalls
import Derived.Test.YtgpggnhifkkfbaaPuFrameCalls
namespace Go.Proofs.Ytgpggnhifkkfbaa
open Go.ChangeShapes Go.WideShapes Go.ChangeAt Go.RowKit

theorem Try.own : ownKnob Try.prog.godebug = none := by kernel_rfl
theorem Try.laidOut : laidOutB Try.prog = true := by kernel_rfl

set_option maxRecDepth 100000 in
theorem frameCalls_lifted (os : Os) (started : os.Started) (H : Type) (enc : TypeId × Value → H) :
    ReturnsInHanded {} Try.checked os 9 .any (Rows.frameCallsSpec.pre6 enc Try.prog Try.f9 Rows.frameCallsRow.domain false) (Rows.frameCallsSpec.post enc Try.prog Try.f9 false true false false) := by
  refine returnsInHanded_of_change (C := Try.checked) Try.own started (by kernel_rfl) Try.func9 (ChangeSpec.witness6 (enc := enc) (C := Try.checked) false ⟨#[], #[.agg #[.int .u8 0, .int .u8 0, .int .u8 0, .int .u8 0, .int .u8 0, .int .u8 0, .int .u8 0, .int .u8 0, .int .u8 0, .int .u8 0, .int .u8 0, .int .u8 0, .int .i64 0, .int .u16 0, .slice none 0 0], .agg #[.int .u8 0, .int .u8 0, .int .u8 0, .int .u8 0, .int .u8 0, .int .u8 0, .int .u8 0, .int .u8 0, .int .u8 0, .int .u8 0, .int .u8 0, .int .u8 0, .int .i64 0, .int .u16 0, .slice none 0 0], .agg #[.int .u8 0, .int .u16 0, .int .u16 0, .int .u16 0], .slice none 0 0], []⟩ 8 (by kernel_rfl) (by kernel_rfl) (by kernel_rfl) (by kernel_rfl)) ?_
  intro W base args ds gs before hval0 hW hcnd _
  have hW2 : DataW.Whole enc Try.prog Try.f9.params.toList Rows.frameCallsSpec.vars false W args.toList ds gs before := hW
  have hval : ∀ (j : Nat) t v, Try.f9.params[j]? = some t → args[j]? = some v → Value.okWide Try.prog W .any base t v := hval0
  obtain ⟨p, q, hA0, _⟩ := hW
  have hA : DataW.TrodAll enc Try.prog W 0 (fun _ => true) true Try.f9.params.toList args.toList ds p := hA0
  clear hA0 hval0 hcnd
  rw [Try.params9] at hA hval
  obtain ⟨vs, rfl, hA⟩ := args_list hA
  obtain ⟨a0, vs, d0, ds, p0, q0, rfl, rfl, rfl, g0, hA⟩ := trodAll_cons hA
  obtain ⟨a1, vs, d1, ds, p1, q1, rfl, rfl, rfl, g1, hA⟩ := trodAll_cons hA
  obtain ⟨a2, vs, d2, ds, p2, q2, rfl, rfl, rfl, g2, hA⟩ := trodAll_cons hA
  obtain ⟨a3, vs, d3, ds, p3, q3, rfl, rfl, rfl, g3, hA⟩ := trodAll_cons hA
  obtain ⟨rfl, rfl, rfl⟩ := trodAll_nil hA
  obtain ⟨f, cs0, e0, s0⟩ := open_agg rdT38 (agg_struct Try.underlying38 (hval 0 38 a0 rfl rfl)) g0
  obtain ⟨vf1, ee0, s0⟩ := s0
  obtain rfl : cs0 = [vU8 f.Dst.a0, vU8 f.Dst.a1, vU8 f.Dst.a2, vU8 f.Dst.a3, vU8 f.Dst.a4, vU8 f.Dst.a5, vU8 f.Src.a0, vU8 f.Src.a1, vU8 f.Src.a2, vU8 f.Src.a3, vU8 f.Src.a4, vU8 f.Src.a5, vI f.Vlan, vU16 f.Type_, vf1] := ee0
  subst e0
  obtain ⟨g, cs1, e1, s1⟩ := open_agg rdT38 (agg_struct Try.underlying38 (hval 1 38 a1 rfl rfl)) g1
  obtain ⟨vg1, ee1, s1⟩ := s1
  obtain rfl : cs1 = [vU8 g.Dst.a0, vU8 g.Dst.a1, vU8 g.Dst.a2, vU8 g.Dst.a3, vU8 g.Dst.a4, vU8 g.Dst.a5, vU8 g.Src.a0, vU8 g.Src.a1, vU8 g.Src.a2, vU8 g.Src.a3, vU8 g.Src.a4, vU8 g.Src.a5, vI g.Vlan, vU16 g.Type_, vg1] := ee1
  subst e1
  obtain ⟨hp2, cs2, e2, s2⟩ := open_agg rdT34 (agg_struct Try.underlying34 (hval 2 34 a2 rfl rfl)) g2
  obtain rfl : cs2 = [vU8 hp2.Flags, vU16 hp2.Start, vU16 hp2.Off, vU16 hp2.Buffers] := s2
  subst e2
  obtain ⟨b, vb1, e3, s3⟩ := open_one rdT22 (noagg_slice Try.underlying22) (hval 3 22 a3 rfl rfl) g3
  obtain rfl := (List.cons.inj e3).1
  refine law_calls Try.laidOut (by kernel_rfl) rfl Try.underlying4 rfl ?_ (w_law23zFrameCalls (t_law23zFrameCalls f g hp2 b)) (facts_cons s0 (facts_cons s1 (facts_cons s3 (facts_nil)))) hW2
  intro ds h
  rw [Try.params9] at h
  rcases ds with _ | ⟨d0, _ | ⟨d1, _ | ⟨d2, _ | ⟨d3, _ | ⟨d4, ds⟩⟩⟩⟩⟩ <;> first | rfl | simp at h
theorem frameCalls_holds : Rows.FrameCallsSaid :=
  OpenClaim.holds_of_wide 9 Try.f9 rfl rfl rfl rfl rfl rfl rfl ⟨rfl, rfl, rfl, rfl, rfl⟩ rfl rfl rfl rfl rfl (by kernel_rfl) Try.func9 (by kernel_rfl)
    (of_decide_eq_true (by kernel_rfl)) (by unfold Func.isWrapper; first | (rw [if_pos (by decide +kernel)]; kernel_rfl) | (rw [if_neg (by decide +kernel)]; exact ⟨rfl, rfl⟩))
    (fun os started H enc _ => frameCalls_lifted os started H enc)
end Go.Proofs.Ytgpggnhifkkfbaa
