/- The statement DescBack of the seat: whatever the input, the law returns true and its arguments read as before. No condition. -/
import Derived.Test.YtamdpkddehhocaaRows
import Derived.Test.YtamdpkddehhocaaRd
import Derived.Test.YtamdpkddehhocaaWlDescBack
import Derived.Test.YtamdpkddehhocaaPuDescBack
namespace Go.Proofs.Ytamdpkddehhocaa
open Go.ChangeShapes Go.WideShapes Go.ChangeAt Go.RowKit

theorem Try.own : ownKnob Try.prog.godebug = none := by kernel_rfl
theorem Try.laidOut : laidOutB Try.prog = true := by kernel_rfl

set_option maxRecDepth 100000 in
theorem descBack_lifted (os : Os) (started : os.Started) (H : Type) (enc : TypeId × Value → H) :
    ReturnsInHanded {} Try.checked os 6 .any (Rows.descBackSpec.pre6 enc Try.prog Try.f6 Rows.descBackRow.domain false) (Rows.descBackSpec.post enc Try.prog Try.f6 false true false false) := by
  refine returnsInHanded_of_change (C := Try.checked) Try.own started (by kernel_rfl) Try.func6 (ChangeSpec.witness6 (enc := enc) (C := Try.checked) false ⟨#[], #[.agg #[.int .u64 0, .int .u32 0, .int .u16 0, .int .u16 0], .agg #[.int .u64 0, .int .u32 0, .int .u16 0, .int .u16 0], .agg #[.int .u64 0, .int .u32 0, .int .u16 0, .int .u16 0], .agg #[.int .u64 0, .int .u32 0, .int .u16 0, .int .u16 0], .agg #[.int .u32 0, .int .u32 0], .agg #[.int .u16 0, .int .u16 0], .slice none 0 0], []⟩ 8 (by kernel_rfl) (by kernel_rfl) (by kernel_rfl) (by kernel_rfl)) ?_
  intro W base args ds gs before hval0 hW hcnd _
  have hW2 : DataW.Whole enc Try.prog Try.f6.params.toList Rows.descBackSpec.vars false W args.toList ds gs before := hW
  have hval : ∀ (j : Nat) t v, Try.f6.params[j]? = some t → args[j]? = some v → Value.okWide Try.prog W .any base t v := hval0
  obtain ⟨p, q, hA0, _⟩ := hW
  have hA : DataW.TrodAll enc Try.prog W 0 (fun _ => true) true Try.f6.params.toList args.toList ds p := hA0
  clear hA0 hval0 hcnd
  rw [Try.params6] at hA hval
  obtain ⟨vs, rfl, hA⟩ := args_list hA
  obtain ⟨a0, vs, d0, ds, p0, q0, rfl, rfl, rfl, g0, hA⟩ := trodAll_cons hA
  obtain ⟨a1, vs, d1, ds, p1, q1, rfl, rfl, rfl, g1, hA⟩ := trodAll_cons hA
  obtain ⟨a2, vs, d2, ds, p2, q2, rfl, rfl, rfl, g2, hA⟩ := trodAll_cons hA
  obtain ⟨a3, vs, d3, ds, p3, q3, rfl, rfl, rfl, g3, hA⟩ := trodAll_cons hA
  obtain ⟨a4, vs, d4, ds, p4, q4, rfl, rfl, rfl, g4, hA⟩ := trodAll_cons hA
  obtain ⟨a5, vs, d5, ds, p5, q5, rfl, rfl, rfl, g5, hA⟩ := trodAll_cons hA
  obtain ⟨a6, vs, d6, ds, p6, q6, rfl, rfl, rfl, g6, hA⟩ := trodAll_cons hA
  obtain ⟨rfl, rfl, rfl⟩ := trodAll_nil hA
  obtain ⟨ap0, cs0, e0, s0⟩ := open_agg rdT29 (agg_struct Try.underlying29 (hval 0 29 a0 rfl rfl)) g0
  obtain rfl : cs0 = [vU64 ap0.Addr, vU32 ap0.Len, vU16 ap0.Flags, vU16 ap0.Next] := s0
  subst e0
  obtain ⟨b, cs1, e1, s1⟩ := open_agg rdT29 (agg_struct Try.underlying29 (hval 1 29 a1 rfl rfl)) g1
  obtain rfl : cs1 = [vU64 b.Addr, vU32 b.Len, vU16 b.Flags, vU16 b.Next] := s1
  subst e1
  obtain ⟨pp2, cs2, e2, s2⟩ := open_agg rdT31 (agg_struct Try.underlying31 (hval 2 31 a2 rfl rfl)) g2
  obtain rfl : cs2 = [vU64 pp2.Addr, vU32 pp2.Len, vU16 pp2.ID, vU16 pp2.Flags] := s2
  subst e2
  obtain ⟨qp3, cs3, e3, s3⟩ := open_agg rdT31 (agg_struct Try.underlying31 (hval 3 31 a3 rfl rfl)) g3
  obtain rfl : cs3 = [vU64 qp3.Addr, vU32 qp3.Len, vU16 qp3.ID, vU16 qp3.Flags] := s3
  subst e3
  obtain ⟨u, cs4, e4, s4⟩ := open_agg rdT49 (agg_struct Try.underlying49 (hval 4 49 a4 rfl rfl)) g4
  obtain rfl : cs4 = [vU32 u.ID, vU32 u.Len] := s4
  subst e4
  obtain ⟨vp5, cs5, e5, s5⟩ := open_agg rdT52 (agg_struct Try.underlying52 (hval 5 52 a5 rfl rfl)) g5
  obtain rfl : cs5 = [vU16 vp5.Off, vU16 vp5.Flags] := s5
  subst e5
  obtain ⟨l, vl1, e6, s6⟩ := open_one rdT32 (noagg_slice Try.underlying32) (hval 6 32 a6 rfl rfl) g6
  obtain rfl := (List.cons.inj e6).1
  refine law_calls Try.laidOut (by kernel_rfl) rfl Try.underlying4 rfl ?_ (w_law_DescBack (t_law_DescBack ap0 b pp2 qp3 u vp5 l)) (facts_cons s6 (facts_nil)) hW2
  intro ds h
  rw [Try.params6] at h
  rcases ds with _ | ⟨d0, _ | ⟨d1, _ | ⟨d2, _ | ⟨d3, _ | ⟨d4, _ | ⟨d5, _ | ⟨d6, _ | ⟨d7, ds⟩⟩⟩⟩⟩⟩⟩⟩ <;> first | rfl | simp at h
theorem descBack_holds : Rows.DescBackSaid :=
  OpenClaim.holds_of_wide 6 Try.f6 rfl rfl rfl rfl rfl rfl rfl ⟨rfl, rfl, rfl, rfl, rfl⟩ rfl rfl rfl rfl rfl (by kernel_rfl) Try.func6 (by kernel_rfl)
    (of_decide_eq_true (by kernel_rfl)) (by unfold Func.isWrapper; first | (rw [if_pos (by decide +kernel)]; kernel_rfl) | (rw [if_neg (by decide +kernel)]; exact ⟨rfl, rfl⟩))
    (fun os started H enc _ => descBack_lifted os started H enc)
end Go.Proofs.Ytamdpkddehhocaa
