/- Rings in plain words: how they are laid out. No condition. -/
import Derived.Test.YtbeendakebamhaaPuLayout2
namespace Go.Proofs.Ytbeendakebamhaa
theorem andn (x m : UInt64) (k : Nat) (hk : k < 64) (hm : m.toNat = 2 ^ k - 1) : (x &&& ~~~m).toNat = x.toNat / 2 ^ k * 2 ^ k := by
  have e : (x &&& ~~~m).toBitVec = (x.toBitVec >>> k) <<< k := by
    apply BitVec.eq_of_getLsbD_eq
    intro i hi
    have mb : m.toBitVec.getLsbD i = decide (i < k) := by
      have : m.toBitVec.getLsbD i = m.toNat.testBit i := rfl
      rw [this, hm, Nat.testBit_two_pow_sub_one]
    simp only [UInt64.toBitVec_and, UInt64.toBitVec_not, BitVec.getLsbD_and, BitVec.getLsbD_not, BitVec.getLsbD_shiftLeft, BitVec.getLsbD_ushiftRight, mb]
    by_cases h : i < k
    · simp [h]
    · have : k + (i - k) = i := by omega
      simp [h, hi, this]
  have e2 := congrArg BitVec.toNat e
  rw [UInt64.toNat_toBitVec, BitVec.toNat_shiftLeft, BitVec.toNat_ushiftRight, Nat.shiftLeft_eq, Nat.shiftRight_eq_div_pow, UInt64.toNat_toBitVec] at e2
  have hx := x.toNat_lt
  rw [e2, Nat.mod_eq_of_lt (Nat.lt_of_le_of_lt (Nat.div_mul_le_self _ _) hx)]
def upN (a t : Nat) : Nat := (a + (t - 1)) / t * t
def alS (a t : Nat) : UInt64 × Int := if a + (t - 1) < 18446744073709551616 then (UInt64.ofNat (upN a t), 0) else (0, 2)
theorem upN_ge (a t : Nat) (ht : t = 16 ∨ t = 2 ∨ t = 4) : a ≤ upN a t ∧ upN a t ≤ a + (t - 1) ∧ upN a t % t = 0 := by
  unfold upN; rcases ht with rfl | rfl | rfl <;> omega
theorem align_eq (a t : UInt64) (ht : t = 16 ∨ t = 2 ∨ t = 4) : serial_Align a t = some (alS a.toNat t.toNat) := by
  have ha := a.toNat_lt
  unfold serial_Align alS
  have key : ∀ (t m : UInt64) (k : Nat), k < 64 → t - 1 = m → m.toNat = 2 ^ k - 1 → t.toNat = 2 ^ k → 0 < k → (t == 0) = false → (t &&& m) = 0 → br (t == 0) (some ((0 : UInt64), (2 : Int))) (br ((t &&& (t - 1)) != 0) (some (0, 2)) (br (decide ((a + (t - 1)) < a)) (some (0, 2)) (some ((a + (t - 1)) &&& ~~~(t - 1), 0)))) = some (if a.toNat + (t.toNat - 1) < 18446744073709551616 then (UInt64.ofNat (upN a.toNat t.toNat), 0) else (0, 2)) := by
    intro t m k hk h1 h2 h3 hk0 h0 h4
    have hp : 2 ^ k ≤ 2 ^ 63 := Nat.pow_le_pow_right (by decide) (by omega)
    have hp1 : 0 < 2 ^ k := Nat.pow_pos (by decide)
    rw [bFl h0, h1, nE h4]
    have es : (a + m).toNat = (a.toNat + (2 ^ k - 1)) % 18446744073709551616 := by rw [UInt64.toNat_add, h2]
    by_cases h : a.toNat + (t.toNat - 1) < 18446744073709551616
    · rw [h3] at h
      rw [bN (by rw [lt64, es]; omega), if_pos (by rw [h3]; exact h)]
      congr 2
      apply UInt64.toNat_inj.1
      rw [andn _ m k hk h2, es, Nat.mod_eq_of_lt h, UInt64.toNat_ofNat', upN, h3]
      have := Nat.div_mul_le_self (a.toNat + (2 ^ k - 1)) (2 ^ k)
      rw [Nat.mod_eq_of_lt (by omega)]
    · rw [h3] at h
      rw [bP (by rw [lt64, es]; omega), if_neg (by rw [h3]; exact h)]
  rcases ht with rfl | rfl | rfl
  · exact key 16 15 4 (by decide) rfl rfl rfl (by decide) rfl rfl
  · exact key 2 1 1 (by decide) rfl rfl rfl (by decide) rfl rfl
  · exact key 4 3 2 (by decide) rfl rfl rfl (by decide) rfl rfl
def qN (p : Bool) : Nat := if p then 4 else 2
def plD (base : Nat) : Nat := upN base 16
def plV (p : Bool) (n : Int) (base : Nat) : Nat := upN (plD base + lenX n) (qN p)
def plW (p : Bool) (n : Int) (base : Nat) : Nat := upN (plV p n base + lenY p n) 4
def plOk (p : Bool) (n : Int) (base : Nat) : Prop := szB p n = true ∧ base + 15 < 18446744073709551616 ∧ plD base + lenX n < 18446744073709551616 ∧ plD base + lenX n + (qN p - 1) < 18446744073709551616 ∧ plV p n base + lenY p n < 18446744073709551616 ∧ plV p n base + lenY p n + 3 < 18446744073709551616 ∧ plW p n base + lenZ p n ≤ 18446744073709551616
instance (p : Bool) (n : Int) (base : Nat) : Decidable (plOk p n base) := by unfold plOk; infer_instance
def plGood (p : Bool) (n : Int) (base : UInt64) : Rings × UInt64 × Int := (⟨p, n, UInt64.ofNat (plD base.toNat), UInt64.ofNat (plV p n base.toNat), UInt64.ofNat (plW p n base.toNat)⟩, UInt64.ofNat (plW p n base.toNat + lenZ p n) - base, 0)
def plBad : Rings × UInt64 × Int := (⟨false, 0, 0, 0, 0⟩, 0, 2)
def plS (p : Bool) (n : Int) (base : UInt64) : Rings × UInt64 × Int := if plOk p n base.toNat then plGood p n base else plBad
theorem plS_bad {p : Bool} {n : Int} {base : UInt64} (h : ¬ plOk p n base.toNat) : some plBad = some (plS p n base) := by unfold plS; rw [if_neg h]
theorem plS_good {p : Bool} {n : Int} {base : UInt64} (h : plOk p n base.toNat) : some (plGood p n base) = some (plS p n base) := by unfold plS; rw [if_pos h]
theorem alS_ok {a t : Nat} (h : a + (t - 1) < 18446744073709551616) : alS a t = (UInt64.ofNat (upN a t), 0) := by unfold alS; rw [if_pos h]
theorem alS_no {a t : Nat} (h : ¬ a + (t - 1) < 18446744073709551616) : alS a t = (0, 2) := by unfold alS; rw [if_neg h]
theorem ofN {n : Nat} (h : n < 18446744073709551616) : (UInt64.ofNat n).toNat = n := by rw [UInt64.toNat_ofNat']; omega
theorem pl_facts {p : Bool} {n : Int} {base : Nat} : base ≤ plD base ∧ plD base ≤ base + 15 ∧ plD base % 16 = 0 ∧ plD base + lenX n ≤ plV p n base ∧ plV p n base ≤ plD base + lenX n + (qN p - 1) ∧ plV p n base % qN p = 0 ∧ plV p n base + lenY p n ≤ plW p n base ∧ plW p n base ≤ plV p n base + lenY p n + 3 ∧ plW p n base % 4 = 0 := by
  have h1 := upN_ge base 16 (by omega)
  have h2 := upN_ge (plD base + lenX n) (qN p) (by unfold qN; cases p <;> simp)
  have h3 := upN_ge (plV p n base + lenY p n) 4 (by omega)
  exact ⟨h1.1, h1.2.1, h1.2.2, h2.1, h2.2.1, h2.2.2, h3.1, h3.2.1, h3.2.2⟩
theorem pl_valid {p : Bool} {n : Int} {base : UInt64} (h : plOk p n base.toNat) : valR (plGood p n base).1 := by
  obtain ⟨hs, o1, o2, o3, o4, o5, o6⟩ := h
  obtain ⟨f1, f2, f3, f4, f5, f6, f7, f8, f9⟩ := pl_facts (p := p) (n := n) (base := base.toNat)
  obtain ⟨_, _, _, p1, p2, p3, b1, b2, b3⟩ := lenN_of hs
  have hq : qN p = 4 ∨ qN p = 2 := by unfold qN; cases p <;> simp
  have t1 := ofN (n := plD base.toNat) (by omega)
  have t2 := ofN (n := plV p n base.toNat) (by omega)
  have t3 := ofN (n := plW p n base.toNat) (by omega)
  refine ⟨hs, ?_⟩
  unfold plGood
  dsimp only
  rw [t1, t2, t3]
  exact ⟨f3, by omega, f6, by omega, by unfold comN; omega, f9, o6, by unfold comN; omega, by unfold comN; omega⟩
theorem addN {a b : Nat} : UInt64.ofNat a + UInt64.ofNat b = UInt64.ofNat (a + b) := by rw [UInt64.ofNat_add]
theorem over_n {a b : Nat} (ha : a < 18446744073709551616) (hb : b < 18446744073709551616) : decide (UInt64.ofNat (a + b) < UInt64.ofNat a) = decide (¬ a + b < 18446744073709551616) := by
  rw [decide_eq_decide, lt64, ofN ha, UInt64.toNat_ofNat']; omega
set_option maxHeartbeats 1000000 in
theorem place_eq (p : Bool) (n : Int) (base : UInt64) : layout_Place p n base = some (plS p n base) := by
  unfold layout_Place
  rw [oS (isSize_eq _)]
  dsimp only
  cases hs : szB p n with
  | false => rw [bT (show (!false) = true from rfl)]; exact plS_bad (fun q => by have := q.1; rw [hs] at this; cases this)
  | true =>
    obtain ⟨l1, l2, l3, p1, p2, p3, b1, b2, b3⟩ := lenN_of hs
    have hst : layout_steps ⟨p, n, 0, 0, 0⟩ = some ⟨16, if p then 4 else 2, 4⟩ := by unfold layout_steps; cases p <;> rfl
    have hsp := spans_eq (r := ⟨p, n, 0, 0, 0⟩) hs
    dsimp only at hsp
    have hqt : (if p then (4 : UInt64) else 2).toNat = qN p := by unfold qN; cases p <;> rfl
    have hq2 : qN p = 4 ∨ qN p = 2 := by unfold qN; cases p <;> simp
    obtain ⟨f1, f2, f3, f4, f5, f6, f7, f8, f9⟩ := pl_facts (p := p) (n := n) (base := base.toNat)
    rw [bFl (show (!true) = false from rfl), oS hst, oS hsp]
    dsimp only
    rw [oS (align_eq base 16 (.inl rfl)), show (16 : UInt64).toNat = 16 from rfl]
    by_cases o1 : base.toNat + 15 < 18446744073709551616
    rotate_left
    · rw [alS_no o1]; exact plS_bad (fun q => o1 q.2.1)
    rw [alS_ok o1]
    dsimp only
    change _ = some (plS p n base)
    rw [show upN base.toNat 16 = plD base.toNat from rfl, nE rfl]
    have tD := ofN (n := plD base.toNat) (by omega)
    rw [oS (beyond_eq _ _ (by rw [l1]; exact p1)), l1, tD, addN]
    by_cases o2 : plD base.toNat + lenX n < 18446744073709551616
    rotate_left
    · by_cases o2' : plD base.toNat + lenX n ≤ 18446744073709551616
      · rw [bN (fun q => q o2'), over_n (by omega) (by omega), bP o2]; exact plS_bad (fun q => o2 q.2.2.1)
      · rw [bP o2']; exact plS_bad (fun q => o2 q.2.2.1)
    rw [bN (by omega), over_n (by omega) (by omega), bN (fun q => q o2), oS (align_eq _ _ (by cases p <;> simp)), ofN o2, hqt]
    by_cases o3 : plD base.toNat + lenX n + (qN p - 1) < 18446744073709551616
    rotate_left
    · rw [alS_no o3]; exact plS_bad (fun q => o3 q.2.2.2.1)
    rw [alS_ok o3]
    dsimp only
    rw [show upN (plD base.toNat + lenX n) (qN p) = plV p n base.toNat from rfl, nE rfl]
    have tV := ofN (n := plV p n base.toNat) (by omega)
    rw [oS (beyond_eq _ _ (by rw [l2]; exact p2)), l2, tV, addN]
    by_cases o4 : plV p n base.toNat + lenY p n < 18446744073709551616
    rotate_left
    · by_cases o4' : plV p n base.toNat + lenY p n ≤ 18446744073709551616
      · rw [bN (fun q => q o4'), over_n (by omega) (by omega), bP o4]; exact plS_bad (fun q => o4 q.2.2.2.2.1)
      · rw [bP o4']; exact plS_bad (fun q => o4 q.2.2.2.2.1)
    rw [bN (by omega), over_n (by omega) (by omega), bN (fun q => q o4), oS (align_eq _ 4 (.inr (.inr rfl))), ofN o4, show (4 : UInt64).toNat = 4 from rfl]
    by_cases o5 : plV p n base.toNat + lenY p n + (4 - 1) < 18446744073709551616
    rotate_left
    · rw [alS_no o5]; exact plS_bad (fun q => o5 q.2.2.2.2.2.1)
    rw [alS_ok o5]
    dsimp only
    rw [show upN (plV p n base.toNat + lenY p n) 4 = plW p n base.toNat from rfl, nE rfl]
    have tW := ofN (n := plW p n base.toNat) (by omega)
    rw [oS (beyond_eq _ _ (by rw [l3]; exact p3)), l3, tW, addN]
    by_cases o6 : plW p n base.toNat + lenZ p n ≤ 18446744073709551616
    rotate_left
    · rw [bP o6]; exact plS_bad (fun q => o6 q.2.2.2.2.2.2)
    rw [bN (fun q => q o6)]
    have fin := plS_good (p := p) (n := n) (base := base) ⟨hs, o1, o2, o3, o4, o5, o6⟩
    cases decide (UInt64.ofNat (plW p n base.toNat + lenZ p n) < UInt64.ofNat (plW p n base.toNat)) with
    | true => rw [bT rfl]; exact fin
    | false => rw [bFl rfl]; exact fin
def fitS (l : List Region) (r : Rings) : Int := if ¬ valR r then 2 else if (findR l r.Desc.toNat (lenX r.Size)).isSome ∧ (findR l r.Driver.toNat (lenY r.Packed r.Size)).isSome ∧ (findR l r.Device.toNat (lenZ r.Packed r.Size)).isSome then 0 else 5
theorem fits_eq (m : gmem_Mem) (hm : memOk m.l m.b) (r : Rings) : layout_Fits m r = some (fitS m.l r) := by
  unfold layout_Fits fitS
  have h0 : gmem_Mem_Read m (0 : UInt64) (0 : Int) = some ([], 0) := by rw [read_eqM m hm _ _ (by omega)]; rfl
  rw [oS h0, bF (by decide), oS (check_eq r)]
  by_cases hv : valR r
  · obtain ⟨l1, l2, l3, _⟩ := lenN_of hv.1
    rw [decide_eq_true hv, nE (show two true = 0 from rfl), if_neg (fun q => q hv), oS (spans_eq hv.1)]
    dsimp only
    rw [oS (has_eq m hm _ _), l1, oS (has_eq m hm _ _), l2, oS (has_eq m hm _ _), l3]
    cases (findR m.l r.Desc.toNat (lenX r.Size)).isSome with
    | false => rw [bT (show (!false) = true from rfl), if_neg (by simp)]
    | true =>
      rw [bFl (show (!true) = false from rfl)]
      cases (findR m.l r.Driver.toNat (lenY r.Packed r.Size)).isSome with
      | false => rw [bT (show (!false) = true from rfl), if_neg (by simp)]
      | true =>
        rw [bFl (show (!true) = false from rfl)]
        cases (findR m.l r.Device.toNat (lenZ r.Packed r.Size)).isSome with
        | false => rw [bT (show (!false) = true from rfl), if_neg (by simp)]
        | true => rw [bFl (show (!true) = false from rfl), if_pos (by simp)]
  · rw [decide_eq_false hv, nF (show two false ≠ 0 by decide), if_pos hv]; rfl
end Go.Proofs.Ytbeendakebamhaa
