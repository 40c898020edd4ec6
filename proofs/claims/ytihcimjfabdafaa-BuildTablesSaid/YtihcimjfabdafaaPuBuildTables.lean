/- The law BuildTables in plain words: it answers true. No condition. -/
import Derived.Test.YtihcimjfabdafaaPuBuild2
namespace Go.Proofs.Ytihcimjfabdafaa
theorem lives09T : law09zlives = some true := by kernel_rfl
theorem flat16_len {α : Type} (g : α → List UInt8) (hg : ∀ x, (g x).length = 16) : ∀ L : List α, (L.flatMap g).length = 16 * L.length
  | [] => rfl
  | x :: L => by rw [List.flatMap_cons, List.length_append, hg, flat16_len g hg L, List.length_cons]; omega
theorem mkd_low (w : Bool) : mkd 4 w false &&& 7 = 4 := by cases w <;> rfl
theorem avail4 (w : Bool) : ref_Avail03 (mkd 4 w false) w = some true := by cases w <;> rfl
theorem i32_u32 {n : Nat} (h : n ≤ 4000000000) : i32 (u32 (n : Int)) = (n : Int) := by
  rw [u32_of]; simp only [i32, UInt32.toNat_ofNat']; omega
theorem i16_u16 {n : Nat} (h : n ≤ 65535) : i16 (u16 (n : Int)) = (n : Int) := by
  rw [u16_of]; simp only [i16, UInt16.toNat_ofNat']; omega
theorem t_law09zBuildTables (l : List Seg) (atp1 : UInt64) (id : Int) (pos : Int) (wrap : Bool) : law09zBuildTables l atp1 id pos wrap = some true := by
  unfold law09zBuildTables
  rw [oS lives09T, notT, notF, chkT]
  by_cases h1 : len l > 100
  · rw [bP h1]
  rw [bN h1, oS (stab_eq l), oS (ptab_eq l), oS (needs_eqB l true)]
  simp only [len] at h1
  unfold tabF ptabF
  by_cases he : errB l = 0
  · obtain ⟨hg, hne⟩ := errB_zero.1 he
    have h64 := hg.1
    have hpos : 1 ≤ l.length := List.length_pos_iff.2 hne
    obtain ⟨k1, hk1, hk1b⟩ := pick_eq id 64 (by decide) (by decide)
    obtain ⟨k2, hk2, hk2b⟩ := pick_eq pos 64 (by decide) (by decide)
    rw [show ((64 : Nat) : Int) = 64 from rfl] at hk1 hk2
    have hm : many (len l) := by unfold many; simp only [len]; omega
    have ho : oneS (k1 : Int) atp1 (len l) = (⟨(k1 : Int), ⟨atp1, u32 (wi (16 * len l)), 4, 0⟩⟩, 0) := by
      unfold oneS; rw [if_pos ⟨⟨by omega, by omega⟩, hm⟩]
    have hp : oneP ⟨(k2 : Int), wrap⟩ 64 (k1 : Int) atp1 (len l) = (⟨(k2 : Int), ⟨atp1, u32 (wi (16 * len l)), u16 (k1 : Int), mkd 4 wrap false⟩⟩, 0) := by
      unfold oneP; rw [if_pos ⟨⟨⟨by decide, by decide⟩, by dsimp only; omega, by dsimp only; omega⟩, by omega, by omega, hm⟩]
    have hnd : needF l true = 1 := by unfold needF; rw [if_pos he]; rfl
    have w16 : wi (16 * len l) = ((16 * l.length : Nat) : Int) := by simp only [len]; rw [wi_in (by omega) (by omega)]; omega
    have la : len ((tabS l).flatMap bsD) = ((16 * l.length : Nat) : Int) := by
      simp only [len]; rw [flat16_len _ bsD_len]; unfold tabS; rw [genL_len]
    have lb : len ((genL (ptS l) 0 l.length).flatMap bsP) = ((16 * l.length : Nat) : Int) := by
      simp only [len]; rw [flat16_len _ bsP_len, genL_len]
    rw [hnd, bF (by decide), oS hk1, oS hk2, oS (one_eqB _ _ _), oS (onep_eqB _ _ _ _ _), ho, hp]
    simp only [he, ne_eq, not_true_eq_false, if_false, la, lb, w16]
    rw [cnE rfl, cnE rfl, cnE rfl, cnE rfl, cnE rfl, cnE rfl, cnE rfl, cE rfl, cE rfl, cE rfl, cE (i32_u32 (by omega)), cE (i16_u16 (by omega)), cE (mkd_low wrap), oS (avail4 wrap), chkT]
  · have hnd : ∀ t, needF l t = 0 := fun t => by unfold needF; rw [if_neg he]
    rw [hnd, bE rfl, if_pos he, if_pos he, oS (needs_eqB l false), hnd]
    dsimp only
    rw [show (errB l != 0) = true by simp [he], chkT, cE rfl, cE (by decide), cE rfl]
end Go.Proofs.Ytihcimjfabdafaa
