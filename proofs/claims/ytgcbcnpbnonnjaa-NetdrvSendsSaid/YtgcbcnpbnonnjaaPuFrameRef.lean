/- Frames as the document says them; checksums that are filled in. No condition. -/
import Derived.Test.YtgcbcnpbnonnjaaPuFrame
namespace Go.Proofs.Ytgcbcnpbnonnjaa
theorem fold2 : ∀ (nf n : Nat), n < nf → n < 18446744073709551616 → ref_Sum23L4 nf (UInt64.ofNat n) = some (cks n)
  | 0, n, h, _ => by omega
  | nf + 1, n, h, h2 => by
    unfold ref_Sum23L4 ref_Sum23L4B
    have hn : (UInt64.ofNat n).toNat = n := by rw [UInt64.toNat_ofNat']; omega
    have e1 : UInt64.ofNat n % 65536 = UInt64.ofNat (n % 65536) := by
      apply UInt64.toNat_inj.1
      rw [UInt64.toNat_mod, hn, UInt64.toNat_ofNat']; simp only [UInt64.reduceToNat]; omega
    have e2 : UInt64.ofNat n / 65536 = UInt64.ofNat (n / 65536) := by
      apply UInt64.toNat_inj.1
      rw [UInt64.toNat_div, hn, UInt64.toNat_ofNat']; simp only [UInt64.reduceToNat]; omega
    rw [e1, e2, ← UInt64.ofNat_add]
    by_cases h3 : n < 65536
    · rw [bN (by rw [GT.gt, UInt64.lt_iff_toNat_lt, hn]; simp only [UInt64.reduceToNat]; omega), Option.some.injEq]
      apply UInt16.toNat_inj.1
      rw [cks_nat, res_small h3, UInt16.toNat_not, UInt64.toNat_toUInt16, hn, UInt16.size]; omega
    · rw [bP (by rw [GT.gt, UInt64.lt_iff_toNat_lt, hn]; simp only [UInt64.reduceToNat]; omega), Nat.add_comm, fold2 nf _ (by omega) (by omega)]
      unfold cks; rw [res_fold (by omega)]
theorem drop2 {l : List UInt8} {i : Nat} (h : i + 1 < l.length) : l.drop i = l[i] :: l[i + 1] :: l.drop (i + 2) := by
  rw [drop_ix (by omega : i < l.length), drop_ix h]
theorem refSumL (b : List UInt8) (hb : b.length ≤ 100000) : ∀ (k nf i n : Nat), b.length = i + k → k < nf → n + wsum (b.drop i) < 18446744073709551616 → Xl b nf (UInt64.ofNat n) (i : Int) = some (cks (n + wsum (b.drop i)))
  | k, 0, i, n, _, h, _ => by omega
  | k, nf + 1, i, n, hk, hn, hs => by
    have s8 : ∀ x : UInt8, shl64 x.toUInt64 (8 : UInt64).toNat = UInt64.ofNat (256 * x.toNat) := fun x => by
      apply UInt64.toNat_inj.1
      have hx := x.toNat_lt
      simp only [shl64, UInt64.toNat_ofNat', UInt8.toNat_toUInt64, UInt64.reduceToNat]
      rw [show 2 ^ min 8 64 = 256 from rfl]; omega
    have s1 : ∀ x : UInt8, x.toUInt64 = UInt64.ofNat x.toNat := fun x => by
      apply UInt64.toNat_inj.1
      have hx := x.toNat_lt
      simp only [UInt64.toNat_ofNat', UInt8.toNat_toUInt64]; omega
    unfold Xl ref_Sum23L1B
    by_cases h : i < b.length
    · rw [bP (by simp only [len]; omega), oS (ZQ (getq h)), ZZ (by omega)]
      have w2 : wi ((i : Int) + 2) = ((i + 2 : Nat) : Int) := by rw [YV (by omega) (by omega)]; omega
      by_cases h2 : i + 1 < b.length
      · rw [drop2 h2] at hs ⊢
        simp only [wsum] at hs ⊢
        rw [bP (by simp only [len]; omega), oS (ZQ (getq h2))]
        unfold YE ref_Sum23J2
        have e : UInt64.ofNat n + shl64 b[i].toUInt64 (8 : UInt64).toNat + b[i + 1].toUInt64 = UInt64.ofNat (n + 256 * b[i].toNat + b[i + 1].toNat) := by rw [s8, s1, ← UInt64.ofNat_add, ← UInt64.ofNat_add]
        refine ((congr (congrArg (Xl b nf) e) w2).trans (refSumL b hb (k - 2) nf (i + 2) _ (by omega) (by omega) (by omega))).trans ?_
        exact congrArg (fun z => some (cks z)) (by omega)
      · rw [bN (by simp only [len]; omega)]
        have hd : b.drop i = [b[i]] := by rw [drop_ix h, List.drop_of_length_le (by omega)]
        rw [hd] at hs ⊢
        simp only [wsum] at hs ⊢
        unfold YE ref_Sum23J2
        rw [w2, s8, ← UInt64.ofNat_add]
        cases nf with
        | zero => omega
        | succ nf =>
          unfold Xl ref_Sum23L1B
          rw [bN (by simp only [len]; omega)]
          exact fold2 fuel _ (by unfold fuel; omega) hs
    · rw [bN (by simp only [len]; omega)]
      have hd : b.drop i = [] := List.drop_of_length_le (by omega)
      rw [hd] at hs ⊢
      simp only [wsum, Nat.add_zero] at hs ⊢
      exact fold2 fuel _ (by unfold fuel; omega) hs
theorem refSum_eq (b : List UInt8) (h : b.length ≤ 100000) : ref_Sum23 b = some (cks (wsum b)) := by
  have h0 := wsum_le b
  have h1 := refSumL b h b.length fuel 0 0 (by omega) (by unfold fuel; omega) (by simp; omega)
  simp only [List.drop_zero, Nat.zero_add] at h1
  exact h1
theorem refCheck_eq (f : Frame) : Yf f = Xq f := rfl
theorem kitFrame_eq (f g : Frame) : kit_Frame f g = some (f == g) := by
  unfold kit_Frame
  have key : (f == g) = (f.Dst == g.Dst && (f.Src == g.Src && (f.Vlan == g.Vlan && (f.Type_ == g.Type_ && f.Data == g.Data)))) := by
    rw [Bool.eq_iff_iff]
    simp only [beq_iff_eq, Bool.and_eq_true]
    cases f; cases g; simp
  rw [key]
  cases f.Dst == g.Dst <;> cases f.Src == g.Src <;> cases f.Vlan == g.Vlan <;> cases f.Type_ == g.Type_ <;> rfl
theorem refReadHdr_eq (b : List UInt8) : Yn b = Xo b := by
  unfold Yn Xo
  by_cases h : len b < 12
  · rw [bP h, bP h]
  · rw [bN h, bN h]
    unfold XK
    rw [show wi ((6 : Int) + 1) = 7 from by decide, show wi ((8 : Int) + 1) = 9 from by decide, show wi ((10 : Int) + 1) = 11 from by decide]
    simp only [len] at h
    have g : ∀ (i : Nat) (hi : i < 12), ix b (i : Int) = some (b[i]'(by omega)) := fun i hi => ZQ (getq (by omega))
    have g0 := g 0 (by omega); have g6 := g 6 (by omega); have g7 := g 7 (by omega); have g8 := g 8 (by omega); have g9 := g 9 (by omega); have g10 := g 10 (by omega); have g11 := g 11 (by omega)
    simp only [Int.natCast_zero, Int.cast_ofNat_Int] at g0 g6 g7 g8 g9 g10 g11
    simp only [g0, g6, g7, g8, g9, g10, g11, obS]
theorem wsum_put : ∀ (l : List UInt8) (n : Nat) (x y : UInt8), n + 2 ≤ l.length → n % 2 = 0 → l[n]? = some 0 → l[n + 1]? = some 0 → wsum ((l.set n x).set (n + 1) y) = wsum l + (256 * x.toNat + y.toNat)
  | a :: b :: r, 0, x, y, _, _, h0, h1 => by
    simp at h0 h1; subst h0; subst h1
    simp only [List.set_cons_zero, List.set_cons_succ, wsum, UInt8.reduceToNat]; omega
  | a :: b :: r, n + 2, x, y, hl, he, h0, h1 => by
    have := wsum_put r n x y (by simp only [List.length_cons] at hl; omega) (by omega) (by simpa using h0) (by simpa using h1)
    simp only [List.set_cons_succ, wsum, this]; omega
  | a :: b :: r, 1, x, y, _, he, _, _ => by simp at he
  | [a], n, x, y, hl, _, _, _ => by simp only [List.length_cons, List.length_nil] at hl; omega
  | [], n, x, y, hl, _, _, _ => by simp only [List.length_nil] at hl; omega
end Go.Proofs.Ytgcbcnpbnonnjaa
