/- The law LayoutApart in plain words. No condition. -/
import Derived.Test.YtbeendakebamhaaPuLayout3
namespace Go.Proofs.Ytbeendakebamhaa
theorem lives04 : law04zlives = some true := by kernel_rfl
/-- where an element lies: in which part, from where on, how long -/
def ofsA (n a i : Nat) : Nat × Nat × Nat := match a with
  | 1 => (0, 16 * i, 16) | 2 => (1, 0, 2) | 3 => (1, 2, 2) | 4 => (1, 4 + 2 * i, 2) | 5 => (1, 4 + 2 * n, 2)
  | 6 => (2, 0, 2) | 7 => (2, 2, 2) | 8 => (2, 4 + 8 * i, 8) | 9 => (2, 4 + 8 * n, 2) | 10 => (1, 0, 4) | _ => (2, 0, 4)
def okA1 (p : Bool) (a : Nat) : Bool := decide (a = 1) || ((decide (2 ≤ a ∧ a ≤ 9)) != p)
def idxA (n a i : Nat) : Prop := if a = 1 ∨ a = 4 ∨ a = 8 then i < n else i = 0
def basA (r : Rings) (k : Nat) : Nat := match k with | 0 => r.Desc.toNat | 1 => r.Driver.toNat | _ => r.Device.toNat
def plnA (r : Rings) (k : Nat) : Nat := match k with | 0 => lenX r.Size | 1 => lenY r.Packed r.Size | _ => lenZ r.Packed r.Size
theorem ofs_in {r : Rings} {a i : Nat} (hs : szB r.Packed r.Size = true) (h1 : 1 ≤ a) (h11 : a ≤ 11) (ok : okA1 r.Packed a = true) (hi : idxA r.Size.toNat a i) :
    (ofsA r.Size.toNat a i).1 ≤ 2 ∧ (ofsA r.Size.toNat a i).2.1 + (ofsA r.Size.toNat a i).2.2 ≤ plnA r (ofsA r.Size.toNat a i).1 ∧ 0 < (ofsA r.Size.toNat a i).2.2 ∧ (ofsA r.Size.toNat a i).2.2 ≤ 16 := by
  have hn := szB_in hs
  have : a = 1 ∨ a = 2 ∨ a = 3 ∨ a = 4 ∨ a = 5 ∨ a = 6 ∨ a = 7 ∨ a = 8 ∨ a = 9 ∨ a = 10 ∨ a = 11 := by omega
  revert ok hi
  unfold plnA lenX lenY lenZ
  generalize r.Packed = p at *
  generalize r.Size.toNat = n at *
  rcases this with h | h | h | h | h | h | h | h | h | h | h <;> subst h <;> cases p <;> simp [ofsA, okA1, idxA] <;> omega
theorem ofs_dis {n : Nat} {p : Bool} {a b i j : Nat} (a1 : 1 ≤ a) (a11 : a ≤ 11) (b1 : 1 ≤ b) (b11 : b ≤ 11) (oa : okA1 p a = true) (ob : okA1 p b = true) (hi : idxA n a i) (hj : idxA n b j) (h0 : 0 < n)
    (hk : (ofsA n a i).1 = (ofsA n b j).1) : (a ≠ b ∨ i ≠ j) → (ofsA n a i).2.1 + (ofsA n a i).2.2 ≤ (ofsA n b j).2.1 ∨ (ofsA n b j).2.1 + (ofsA n b j).2.2 ≤ (ofsA n a i).2.1 := by
  have ha : a = 1 ∨ a = 2 ∨ a = 3 ∨ a = 4 ∨ a = 5 ∨ a = 6 ∨ a = 7 ∨ a = 8 ∨ a = 9 ∨ a = 10 ∨ a = 11 := by omega
  have hb : b = 1 ∨ b = 2 ∨ b = 3 ∨ b = 4 ∨ b = 5 ∨ b = 6 ∨ b = 7 ∨ b = 8 ∨ b = 9 ∨ b = 10 ∨ b = 11 := by omega
  rcases ha with h | h | h | h | h | h | h | h | h | h | h <;> subst h <;> (first | (rcases hb with h | h | h | h | h | h | h | h | h | h | h <;> subst h <;> (first | (exact absurd hk (by decide)) | (revert oa ob; cases p <;> simp [okA1] <;> done) | (simp [ofsA, idxA] at hi hj hk ⊢ <;> omega) | (simp [ofsA, idxA] at hi hj hk ⊢))))
theorem wh_spot {r : Rings} {a i : Nat} (hv : valR r) (h1 : 1 ≤ a) (h11 : a ≤ 11) (hi : idxA r.Size.toNat a i) :
    whS r (a : Int) (i : Int) = if okA1 r.Packed a then (UInt64.ofNat (basA r (ofsA r.Size.toNat a i).1 + (ofsA r.Size.toNat a i).2.1), ((ofsA r.Size.toNat a i).2.2 : Int), 0) else (0, 0, 2) := by
  have hn := szB_in hv.1
  obtain ⟨p, m, D, V, W⟩ := r
  obtain ⟨n, rfl⟩ : ∃ n : Nat, m = (n : Int) := ⟨m.toNat, by dsimp only at hn; omega⟩
  dsimp only at hn hi ⊢
  have eD : D = UInt64.ofNat D.toNat := UInt64.ofNat_toNat.symm
  have eV : V = UInt64.ofNat V.toNat := UInt64.ofNat_toNat.symm
  have eW : W = UInt64.ofNat W.toNat := UInt64.ofNat_toNat.symm
  have : a = 1 ∨ a = 2 ∨ a = 3 ∨ a = 4 ∨ a = 5 ∨ a = 6 ∨ a = 7 ∨ a = 8 ∨ a = 9 ∨ a = 10 ∨ a = 11 := by omega
  unfold whS
  rw [if_neg (fun q => q hv)]
  simp only [Int.toNat_natCast] at hi ⊢
  unfold idxA at hi
  cases p <;> (rcases this with h | h | h | h | h | h | h | h | h | h | h <;> subst h <;> simp [ofsA, okA1, basA, ← addN, ← mul_of, u64_of, UInt64.add_assoc] at hi ⊢ <;> (try subst hi) <;> (try omega) <;> (try rfl))
theorem bas_dis {r : Rings} {k k' : Nat} (hv : valR r) (hk : k ≤ 2) (hk' : k' ≤ 2) (ne : k ≠ k') : basA r k + plnA r k ≤ basA r k' ∨ basA r k' + plnA r k' ≤ basA r k := by
  obtain ⟨_, _, _, _, _, c1, _, _, c2, c3⟩ := hv
  unfold comN at c1 c2 c3
  have h : k = 0 ∨ k = 1 ∨ k = 2 := by omega
  have h' : k' = 0 ∨ k' = 1 ∨ k' = 2 := by omega
  rcases h with rfl | rfl | rfl <;> rcases h' with rfl | rfl | rfl <;> simp only [basA, plnA] <;> omega
theorem bas_le {r : Rings} {k : Nat} (hv : valR r) (hk : k ≤ 2) : basA r k + plnA r k ≤ 18446744073709551616 := by
  obtain ⟨_, _, c1, _, c2, _, _, c3, _, _⟩ := hv
  have h : k = 0 ∨ k = 1 ∨ k = 2 := by omega
  rcases h with rfl | rfl | rfl <;> simp only [basA, plnA] <;> omega
theorem over_in {r : Rings} {k x : Nat} (hv : valR r) (hk : k ≤ 2) (h1 : basA r k ≤ x) (h2 : x < basA r k + plnA r k) : layout_Over r (UInt64.ofNat x) 1 = some true := by
  have := bas_le hv hk
  rw [over_ok]; refine congrArg some ?_
  unfold overS
  rw [ofN (by omega)]
  refine decide_eq_true ⟨hv, by decide, ?_⟩
  have h : k = 0 ∨ k = 1 ∨ k = 2 := by omega
  unfold comN
  rw [show (1 : UInt64).toNat = 1 from rfl]
  rcases h with rfl | rfl | rfl <;> simp only [basA, plnA] at h1 h2
  · left; omega
  · right; left; omega
  · right; right; omega
theorem last_eq {X n : Nat} (h : 0 < n) (h2 : n ≤ 16) : UInt64.ofNat X + u64 (n : Int) - 1 = UInt64.ofNat (X + (n - 1)) := by
  rw [u64_of, addN, show X + n = X + (n - 1) + 1 by omega, ← addN (b := 1)]
  exact UInt64.add_sub_cancel _ _
theorem lt_of {X Y : Nat} (hx : X < 18446744073709551616) (hy : Y < 18446744073709551616) : decide (UInt64.ofNat X < UInt64.ofNat Y) = decide (X < Y) := by
  rw [decide_eq_decide, lt64, ofN hx, ofN hy]
/-- the end of the law -/
def tailA (r : Rings) (w1 w2 : UInt64 × Int × Int) (a b i j : Int) : Option Bool :=
  br (w1.2.2 != (0 : Int))
  (some true)
  (br (w2.2.2 != (0 : Int))
  (some true)
  (ob (layout_Over r w1.1 (1 : UInt64)) fun over1 =>
  ob (layout_Over r ((w1.1 + (u64 w1.2.1)) - (1 : UInt64)) (1 : UInt64)) fun over2 =>
  br (decide (((w1.1 + (u64 w1.2.1)) - (1 : UInt64)) < w2.1))
  (chk (over1) <|
  chk (over2) <|
  br (a != b)
  (chk (true == true) <|
  some true)
  (chk (true == (i != j)) <|
  some true))
  (chk (over1) <|
  chk (over2) <|
  br (a != b)
  (chk ((decide (((w2.1 + (u64 w2.2.1)) - (1 : UInt64)) < w1.1)) == true) <|
  some true)
  (chk ((decide (((w2.1 + (u64 w2.2.1)) - (1 : UInt64)) < w1.1)) == (i != j)) <|
  some true))))
theorem tail_ok {r : Rings} {a b i j : Nat} (hv : valR r) (a1 : 1 ≤ a) (a11 : a ≤ 11) (b1 : 1 ≤ b) (b11 : b ≤ 11) (hi : idxA r.Size.toNat a i) (hj : idxA r.Size.toNat b j) :
    tailA r (whS r (a : Int) (i : Int)) (whS r (b : Int) (j : Int)) (a : Int) (b : Int) (i : Int) (j : Int) = some true := by
  unfold tailA
  rw [wh_spot hv a1 a11 hi, wh_spot hv b1 b11 hj]
  cases oa : okA1 r.Packed a with
  | false => rfl
  | true =>
    cases ob : okA1 r.Packed b with
    | false => rfl
    | true =>
      have hn := szB_in hv.1
      obtain ⟨ka, la, pa, qa⟩ := ofs_in hv.1 a1 a11 oa hi
      obtain ⟨kb, lb, pb, qb⟩ := ofs_in hv.1 b1 b11 ob hj
      have dis : (a ≠ b ∨ i ≠ j) → basA r (ofsA r.Size.toNat a i).1 + (ofsA r.Size.toNat a i).2.1 + (ofsA r.Size.toNat a i).2.2 ≤ basA r (ofsA r.Size.toNat b j).1 + (ofsA r.Size.toNat b j).2.1 ∨ basA r (ofsA r.Size.toNat b j).1 + (ofsA r.Size.toNat b j).2.1 + (ofsA r.Size.toNat b j).2.2 ≤ basA r (ofsA r.Size.toNat a i).1 + (ofsA r.Size.toNat a i).2.1 := by
        intro q
        by_cases e : (ofsA r.Size.toNat a i).1 = (ofsA r.Size.toNat b j).1
        · have := ofs_dis a1 a11 b1 b11 oa ob hi hj (by omega) e q
          rw [e] at la ⊢
          omega
        · have := bas_dis hv ka kb e
          omega
      have same : a = b → i = j → basA r (ofsA r.Size.toNat a i).1 + (ofsA r.Size.toNat a i).2.1 = basA r (ofsA r.Size.toNat b j).1 + (ofsA r.Size.toNat b j).2.1 := by
        intro e1 e2; rw [e1, e2]
      have ba := bas_le hv ka
      have bb := bas_le hv kb
      have o1 := over_in (x := basA r (ofsA r.Size.toNat a i).1 + (ofsA r.Size.toNat a i).2.1) hv ka (by omega) (by omega)
      have o2 := over_in (x := basA r (ofsA r.Size.toNat a i).1 + (ofsA r.Size.toNat a i).2.1 + ((ofsA r.Size.toNat a i).2.2 - 1)) hv ka (by omega) (by omega)
      rw [if_pos rfl, if_pos rfl]
      dsimp only
      generalize hX : basA r (ofsA r.Size.toNat a i).1 + (ofsA r.Size.toNat a i).2.1 = X at *
      generalize hY : basA r (ofsA r.Size.toNat b j).1 + (ofsA r.Size.toNat b j).2.1 = Y at *
      generalize (ofsA r.Size.toNat a i).2.2 = n at *
      generalize (ofsA r.Size.toNat b j).2.2 = m at *
      rw [nE rfl, nE rfl, last_eq pa qa, last_eq pb qb, oS o1, oS o2, lt_of (by omega) (by omega), lt_of (by omega) (by omega)]
      by_cases q : X + (n - 1) < Y
      · rw [bP q]
        by_cases e : a = b
        · rw [nE (by rw [e])]
          have : i ≠ j := fun e2 => by have := same e e2; omega
          have h2 : ((i : Int) != (j : Int)) = true := bne_iff_ne.2 (by omega)
          rw [h2]; rfl
        · rw [nF (by omega)]; rfl
      · rw [bN q]
        by_cases e : a = b
        · rw [nE (by rw [e])]
          by_cases e2 : i = j
          · have := same e e2
            have h2 : ((i : Int) != (j : Int)) = false := by rw [e2]; exact bne_self_eq_false _
            rw [h2, decide_eq_false (by omega)]; rfl
          · have := dis (.inr e2)
            have h2 : ((i : Int) != (j : Int)) = true := bne_iff_ne.2 (by omega)
            rw [h2, decide_eq_true (by omega)]; rfl
        · rw [nF (by omega)]
          have := dis (.inl e)
          rw [decide_eq_true (by omega)]; rfl
theorem split_eq (a : Nat) : law04zLayoutApart_1 (a : Int) = some (decide (2 ≤ a ∧ a ≤ 9)) := by
  unfold law04zLayoutApart_1
  by_cases h : (a : Int) > 1
  · rw [bP h]; refine congrArg some ?_
    rw [decide_eq_decide]; omega
  · rw [bN h, decide_eq_false (by omega)]
theorem err_ok {r : Rings} {a i : Nat} (hv : valR r) (a1 : 1 ≤ a) (a11 : a ≤ 11) (hi : idxA r.Size.toNat a i) : ((whS r (a : Int) (i : Int)).2.2 == (0 : Int)) = okA1 r.Packed a := by
  rw [wh_spot hv a1 a11 hi]
  cases okA1 r.Packed a <;> rfl
theorem cnQ {c : Bool} {k : Option Bool} {r : Option Bool} (h : c = false) (hk : k = r) : chk (!c) k = r := by rw [h]; exact hk
theorem bneF {α : Type} [BEq α] [LawfulBEq α] {a b : α} (h : a = b) : (a != b) = false := by rw [h]; exact bne_self_eq_false b
theorem J2ok {r : Rings} {k1 k2 i j : Nat} (hv : valR r) (h1 : k1 < 11) (h2 : k2 < 11) (hi : idxA r.Size.toNat (1 + k1) i) (hj : idxA r.Size.toNat (1 + k2) j) :
    law04zLayoutApartJ2 r (k1 : Int) (k2 : Int) (i : Int) (j : Int) = some true := by
  unfold law04zLayoutApartJ2 law04zLayoutApartJ3 law04zLayoutApartJ4
  have e1 : wi (1 + (k1 : Int)) = ((1 + k1 : Nat) : Int) := by rw [wi_in (by omega) (by omega)]; omega
  have e2 : wi (1 + (k2 : Int)) = ((1 + k2 : Nat) : Int) := by rw [wi_in (by omega) (by omega)]; omega
  rw [e1, e2, oS (where_eq _ _ _), oS (where_eq _ _ _), oS (split_eq _), oS (split_eq _), err_ok hv (by omega) (by omega) hi, err_ok hv (by omega) (by omega) hj]
  have fin := tail_ok hv (by omega) (by omega) (by omega) (by omega) hi hj
  have pa1 : (1 + k1 = 1) → okA1 r.Packed (1 + k1) = true := fun q => by rw [q]; rfl
  have pb1 : (1 + k2 = 1) → okA1 r.Packed (1 + k2) = true := fun q => by rw [q]; rfl
  have pa2 : ¬ (1 + k1 = 1) → okA1 r.Packed (1 + k1) = (decide (2 ≤ 1 + k1 ∧ 1 + k1 ≤ 9) != r.Packed) := fun q => by unfold okA1; rw [decide_eq_false q, Bool.false_or]
  have pb2 : ¬ (1 + k2 = 1) → okA1 r.Packed (1 + k2) = (decide (2 ≤ 1 + k2 ∧ 1 + k2 ≤ 9) != r.Packed) := fun q => by unfold okA1; rw [decide_eq_false q, Bool.false_or]
  by_cases qa : 1 + k1 = 1
  · rw [bE (show ((1 + k1 : Nat) : Int) = 1 by omega), cnQ (bneF (pa1 qa)) rfl]
    by_cases qb : 1 + k2 = 1
    · rw [bE (show ((1 + k2 : Nat) : Int) = 1 by omega), cnQ (bneF (pb1 qb)) rfl]; exact fin
    · rw [bF (show ¬ ((1 + k2 : Nat) : Int) = 1 by omega), cnQ (bneF (pb2 qb)) rfl]; exact fin
  · rw [bF (show ¬ ((1 + k1 : Nat) : Int) = 1 by omega), cnQ (bneF (pa2 qa)) rfl]
    by_cases qb : 1 + k2 = 1
    · rw [bE (show ((1 + k2 : Nat) : Int) = 1 by omega), cnQ (bneF (pb1 qb)) rfl]; exact fin
    · rw [bF (show ¬ ((1 + k2 : Nat) : Int) = 1 by omega), cnQ (bneF (pb2 qb)) rfl]; exact fin
theorem w1k {k : Nat} (h : k < 11) : wi (1 + (k : Int)) = ((1 + k : Nat) : Int) := by rw [wi_in (by omega) (by omega)]; omega
theorem w1e {k m : Nat} (h : k < 11) (e : 1 + k = m) : wi (1 + (k : Int)) = (m : Int) := by rw [w1k h, e]
theorem w1n {k m : Nat} (h : k < 11) (e : 1 + k ≠ m) : wi (1 + (k : Int)) ≠ (m : Int) := by rw [w1k h]; omega
theorem idx_y {n a i : Nat} (h : a = 1 ∨ a = 4 ∨ a = 8) (hi : i < n) : idxA n a i := by unfold idxA; rw [if_pos h]; exact hi
theorem idx_n {n a : Nat} (h : ¬ (a = 1 ∨ a = 4 ∨ a = 8)) : idxA n a 0 := by unfold idxA; rw [if_neg h]
theorem nE1 {k m : Nat} {M : Int} {x y : Option Bool} (h : k < 11) (hM : M = (m : Int)) (e : 1 + k = m) : br (wi (1 + (k : Int)) != M) x y = y := by rw [hM]; exact nE (w1e h e)
theorem nF1 {k m : Nat} {M : Int} {x y : Option Bool} (h : k < 11) (hM : M = (m : Int)) (e : 1 + k ≠ m) : br (wi (1 + (k : Int)) != M) x y = x := by rw [hM]; exact nF (w1n h e)
theorem J1ok {r : Rings} {k1 k2 i j : Nat} (hv : valR r) (h1 : k1 < 11) (h2 : k2 < 11) (hi : idxA r.Size.toNat (1 + k1) i) (hj : j < r.Size.toNat) :
    law04zLayoutApartJ1 r (k1 : Int) (k2 : Int) (j : Int) (i : Int) = some true := by
  unfold law04zLayoutApartJ1
  by_cases q1 : 1 + k2 = 1
  · rw [nE1 (M := 1) (m := 1) h2 rfl q1]; exact J2ok hv h1 h2 hi (idx_y (.inl q1) hj)
  rw [nF1 (M := 1) (m := 1) h2 rfl q1]
  by_cases q4 : 1 + k2 = 4
  · rw [nE1 (M := 4) (m := 4) h2 rfl q4]; exact J2ok hv h1 h2 hi (idx_y (.inr (.inl q4)) hj)
  rw [nF1 (M := 4) (m := 4) h2 rfl q4]
  by_cases q8 : 1 + k2 = 8
  · rw [nE1 (M := 8) (m := 8) h2 rfl q8]; exact J2ok hv h1 h2 hi (idx_y (.inr (.inr q8)) hj)
  rw [nF1 (M := 8) (m := 8) h2 rfl q8]
  exact J2ok (j := 0) hv h1 h2 hi (idx_n (by omega))
theorem t_law04zLayoutApart (r : Rings) (a i b j : Int) : law04zLayoutApart r a i b j = some true := by
  unfold law04zLayoutApart
  have hn : (!true) = false := rfl
  rw [oS lives04, cNT hn, oS (check_eq r)]
  by_cases hv : valR r
  · rw [decide_eq_true hv, nE (show two true = 0 from rfl)]
    have hs := szB_in hv.1
    obtain ⟨k1, e1, h1⟩ := pick_eq a 11 (by decide) (by decide)
    obtain ⟨k2, e2, h2⟩ := pick_eq b 11 (by decide) (by decide)
    obtain ⟨p3, e3, h3⟩ := pick_eq i r.Size.toNat (by omega) (by omega)
    obtain ⟨p4, e4, h4⟩ := pick_eq j r.Size.toNat (by omega) (by omega)
    have es : ((r.Size.toNat : Nat) : Int) = r.Size := by omega
    rw [es] at e3 e4
    rw [oS (show kit_Pick a 11 = some (k1 : Int) from e1), oS (show kit_Pick b 11 = some (k2 : Int) from e2), oS e3, oS e4]
    by_cases q1 : 1 + k1 = 1
    · rw [nE1 (M := 1) (m := 1) h1 rfl q1]; exact J1ok hv h1 h2 (idx_y (.inl q1) h3) h4
    rw [nF1 (M := 1) (m := 1) h1 rfl q1]
    by_cases q4 : 1 + k1 = 4
    · rw [nE1 (M := 4) (m := 4) h1 rfl q4]; exact J1ok hv h1 h2 (idx_y (.inr (.inl q4)) h3) h4
    rw [nF1 (M := 4) (m := 4) h1 rfl q4]
    by_cases q8 : 1 + k1 = 8
    · rw [nE1 (M := 8) (m := 8) h1 rfl q8]; exact J1ok hv h1 h2 (idx_y (.inr (.inr q8)) h3) h4
    rw [nF1 (M := 8) (m := 8) h1 rfl q8]
    exact J1ok (i := 0) hv h1 h2 (idx_n (by omega)) h4
  · rw [decide_eq_false hv, nF (show two false ≠ 0 by decide)]
end Go.Proofs.Ytbeendakebamhaa
