/- The law LayoutPlaces in plain words. No condition. -/
import Derived.Test.YtbeendakebamhaaPuLayout3
namespace Go.Proofs.Ytbeendakebamhaa
theorem lives04 : law04zlives = some true := by kernel_rfl
theorem cnQ {c : Bool} {k : Option Bool} {r : Option Bool} (h : c = false) (hk : k = r) : chk (!c) k = r := by rw [h]; exact hk
theorem cPP {P : Prop} [Decidable P] {k : Option Bool} (h : P) : chk (decide P) k = k := by rw [decide_eq_true h]; rfl
theorem pl_small {p : Bool} {n : Int} {b : Nat} (hs : szB p n = true) (hb : b < 100001) : plOk p n b := by
  obtain ⟨_, _, _, p1, p2, p3, b1, b2, b3⟩ := lenN_of hs
  obtain ⟨f1, f2, f3, f4, f5, f6, f7, f8, f9⟩ := pl_facts (p := p) (n := n) (base := b)
  have hq : qN p = 4 ∨ qN p = 2 := by unfold qN; cases p <;> simp
  exact ⟨hs, by omega, by omega, by omega, by omega, by omega, by omega⟩
theorem one_ok {B L : UInt64} (h1 : 0 < L.toNat) (h2 : L.toNat ≤ 1048576) (h3 : B.toNat + L.toNat ≤ 18446744073709551616) : goodM [Region.mk B L] := by
  refine ⟨by simp, ?_, ?_⟩
  · unfold okA; rw [Bool.and_eq_true]; exact ⟨decide_eq_true ⟨h1, h3, Nat.zero_le _⟩, rfl⟩
  · unfold sumM sumM; simpa using h2
theorem one_some {B L : UInt64} {a n : Nat} (hg : goodM [Region.mk B L]) (hn : 0 < n) (h1 : B.toNat ≤ a) (h2 : a + n ≤ B.toNat + L.toNat) : (findR [Region.mk B L] a n).isSome = true := by
  rw [findR_some (i := 0) hg.2.1 hn (by simp) h1 h2]; rfl
theorem one_none {B L : UInt64} {a n : Nat} (h : ¬ a + n ≤ B.toNat + L.toNat) : (findR [Region.mk B L] a n).isSome = false := by
  rw [findR_none]; · rfl
  intro i hi h1
  have : i = 0 := by simp at hi; exact hi
  subst this; exact h
theorem placesJ (p : Bool) (base : UInt64) (n : Int) (hs : szB p n = true) : law04zLayoutPlacesJ1 p base n = some true := by
  unfold law04zLayoutPlacesJ1
  generalize hB : base % (100001 : UInt64) = B
  have hB1 : B.toNat < 100001 := by
    rw [← hB, UInt64.toNat_mod]; simp only [UInt64.reduceToNat]; omega
  have ok := pl_small hs hB1
  have hv := pl_valid ok
  obtain ⟨l1, l2, l3, p1, p2, p3, b1, b2, b3⟩ := lenN_of hs
  obtain ⟨f1, f2, f3, f4, f5, f6, f7, f8, f9⟩ := pl_facts (p := p) (n := n) (base := B.toNat)
  have hq : qN p = 4 ∨ qN p = 2 := by unfold qN; cases p <;> simp
  rw [oS (place_eq _ _ _), show plS p n B = plGood p n B from if_pos ok]
  have tD := ofN (n := plD B.toNat) (by omega)
  have tV := ofN (n := plV p n B.toNat) (by omega)
  have tW := ofN (n := plW p n B.toNat) (by omega)
  have tE := ofN (n := plW p n B.toNat + lenZ p n) (by omega)
  have tL : (UInt64.ofNat (plW p n B.toNat + lenZ p n) - B).toNat = plW p n B.toNat + lenZ p n - B.toNat := by rw [sub64 (by omega), tE]
  unfold plGood at hv ⊢
  generalize plD B.toNat = D at *
  generalize plV p n B.toNat = V at *
  generalize plW p n B.toNat = W at *
  generalize UInt64.ofNat (W + lenZ p n) - B = L at *
  have t1 : (L - 1).toNat = L.toNat - 1 := by rw [sub64 (by simp only [UInt64.reduceToNat]; omega)]; rfl
  have g1 : goodM [Region.mk B L] := one_ok (by omega) (by omega) (by omega)
  have g2 : goodM [Region.mk B (L - 1)] := one_ok (by omega) (by omega) (by omega)
  dsimp only at hv ⊢
  rw [cnE rfl, oS (check_eq _), decide_eq_true hv, cnE (show two true = 0 from rfl), cnQ (decide_eq_false (by rw [lt64, tD]; omega)) rfl, cnQ (decide_eq_false (by rw [GT.gt, lt64, sub64 (by omega), tD]; simp only [UInt64.reduceToNat]; omega)) rfl, cnE rfl, cnE rfl, oS (parts_eq _), oS (new_ok g1)]
  dsimp only
  rw [onS, oS (new_ok g2)]
  dsimp only
  rw [onS, cE rfl, cE rfl, oS (fits_eq ⟨_, zer [Region.mk B L]⟩ (zer_ok g1) _), oS (fits_eq ⟨_, zer [Region.mk B (L - 1)]⟩ (zer_ok g2) _)]
  unfold fitS
  rw [if_neg (c := ¬ valR ⟨p, n, UInt64.ofNat D, UInt64.ofNat V, UInt64.ofNat W⟩) (fun q => q hv), if_neg (c := ¬ valR ⟨p, n, UInt64.ofNat D, UInt64.ofNat V, UInt64.ofNat W⟩) (fun q => q hv)]
  dsimp only
  rw [tD, tV, tW, one_some g1 p1 (by omega) (by omega), one_some g1 p2 (by omega) (by omega), one_some g1 p3 (by omega) (by omega), if_pos (by simp), one_none (a := W) (by rw [t1]; omega), if_neg (by simp), cE rfl, cE rfl]
  unfold prS
  rw [if_pos hs]
  dsimp only
  have s1 : (UInt64.ofNat (lenX n) + UInt64.ofNat (lenY p n) + UInt64.ofNat (lenZ p n)).toNat = lenX n + lenY p n + lenZ p n := by rw [addN, addN]; exact ofN (by omega)
  have s2 : (UInt64.ofNat (lenX n) + UInt64.ofNat (lenY p n) + UInt64.ofNat (lenZ p n) + 15 + 3 + 3).toNat = lenX n + lenY p n + lenZ p n + 15 + 3 + 3 := by
    rw [addN, addN, show (15 : UInt64) = UInt64.ofNat 15 from rfl, show (3 : UInt64) = UInt64.ofNat 3 from rfl, addN, addN, addN]; exact ofN (by omega)
  rw [cPP (by rw [le64, s1]; omega), cPP (by rw [le64, s2]; omega), addN, addN, cPP (by rw [GE.ge, le64, ofN (by omega), tV]; omega), cPP (by rw [GE.ge, le64, ofN (by omega), tW]; omega)]
theorem pow8 (j : Nat) (h : j ≤ 8) : szB false ((2 ^ j : Nat) : Int) = true := by
  have : j = 0 ∨ j = 1 ∨ j = 2 ∨ j = 3 ∨ j = 4 ∨ j = 5 ∨ j = 6 ∨ j = 7 ∨ j = 8 := by omega
  rcases this with rfl | rfl | rfl | rfl | rfl | rfl | rfl | rfl | rfl <;> decide
theorem placesL (base : UInt64) (k : Nat) (hk : k < 256) : ∀ (d j nf : Nat), j + d = 8 → d < nf → law04zLayoutPlacesL2 false base (k : Int) nf ((2 ^ j : Nat) : Int) = some true
  | d, j, 0, _, h => absurd h (Nat.not_lt_zero _)
  | d, j, nf + 1, hj, h => by
    have hp : 2 ^ j ≤ 2 ^ 8 := Nat.pow_le_pow_right (by decide) (by omega)
    have hs2 : 2 ^ (j + 1) = 2 * 2 ^ j := by rw [Nat.pow_succ, Nat.mul_comm]
    have h8 : (2 : Nat) ^ 8 = 256 := rfl
    have hsz := pow8 j (by omega)
    have e1 : wi (1 + (k : Int)) = ((1 + k : Nat) : Int) := by rw [wi_in (by omega) (by omega)]; omega
    unfold law04zLayoutPlacesL2 law04zLayoutPlacesL2B
    rw [e1]
    by_cases hj8 : j = 8
    · subst hj8
      rw [bN (by rw [h8]; omega)]
      exact placesJ false base _ hsz
    have IH : ∀ M : Nat, M = 2 ^ (j + 1) → law04zLayoutPlacesL2 false base (k : Int) nf (M : Int) = some true := fun M hM => by
      rw [hM]
      match d, hj, h with
      | 0, hj, h => omega
      | d + 1, hj, h => exact placesL base k hk d (j + 1) nf (by omega) (by omega)
    rw [hs2] at IH
    rw [h8] at hp
    generalize 2 ^ j = m at *
    by_cases q : m < 1 + k
    · have e2 : wi (2 * (m : Int)) = ((2 * m : Nat) : Int) := by rw [wi_in (by omega) (by omega)]; omega
      rw [bP (by omega), e2]
      exact IH _ rfl
    · rw [bN (by omega)]
      exact placesJ false base _ hsz
theorem t_law04zLayoutPlaces (p : Bool) (size : Int) (base : UInt64) : law04zLayoutPlaces p size base = some true := by
  unfold law04zLayoutPlaces
  have hn : (!true) = false := rfl
  rw [oS lives04, cNT hn]
  obtain ⟨k, hk, hk2⟩ := pick_eq size 256 (by decide) (by decide)
  rw [oS (show kit_Pick size 256 = some (k : Int) from hk)]
  cases p with
  | true =>
    rw [bFl (show (!true) = false from rfl)]
    apply placesJ
    have e1 : wi (1 + (k : Int)) = ((1 + k : Nat) : Int) := by rw [wi_in (by omega) (by omega)]; omega
    rw [e1]; unfold szB
    rw [Bool.true_or, Bool.and_true]; exact decide_eq_true (by omega)
  | false =>
    rw [bT (show (!false) = true from rfl)]
    exact placesL base k hk2 8 0 fuel rfl (by rw [fuelS]; omega)
end Go.Proofs.Ytbeendakebamhaa
