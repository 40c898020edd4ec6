/- Buffers side by side: how they are made, taken apart. No condition. -/
import Derived.Test.YtkjmmbmlapmkbaaPuCons
namespace Go.Proofs.Ytkjmmbmlapmkbaa
theorem lives28 : law28zlives = some true := by kernel_rfl
def asI (l : List Nat) : List Int := l.map fun n : Nat => (n : Int)
theorem asI_len (l : List Nat) : (asI l).length = l.length := by simp [asI]
theorem asI_get {l : List Nat} {i : Nat} (h : i < l.length) : ix (asI l) (i : Int) = some ((l[i] : Nat) : Int) := ix_nat (by simp [asI, getq h])
theorem roomsL : ∀ (l : List Nat) (L : List Nat) (i a nf : Nat) (out : List (List Seg)), L.drop i = l → okL l → L.length ≤ 1000 → a + sumL l ≤ 100000 → l.length < nf → out.length = i →
    law28zroomsL1 (asI L) nf (UInt64.ofNat a) out (i : Int) = some (out ++ roomsF a l)
  | l, L, i, a, 0, out, _, _, _, _, h, _ => absurd h (Nat.not_lt_zero _)
  | [], L, i, a, nf + 1, out, hd, hok, hL, hs, hf, ho => by
    have := drop_end hd
    unfold law28zroomsL1 law28zroomsL1B
    rw [bN (by simp only [len, asI_len]; omega)]; simp [roomsF]
  | n :: l, L, i, a, nf + 1, out, hd, hok, hL, hs, hf, ho => by
    obtain ⟨d1, d2, d3⟩ := drop_get hd
    obtain ⟨hn, hok2⟩ := okL_c hok
    rw [sumL_c] at hs
    have g : ix (asI L) (i : Int) = some (n : Int) := by
      rw [asI_get d1]
      have : L[i] = n := by rw [getq d1] at d2; injection d2
      rw [this]
    unfold law28zroomsL1 law28zroomsL1B
    have e1 : u32 (n : Int) = UInt32.ofNat n := by unfold u32; rw [show ((n : Int) % 4294967296).toNat = n by omega]
    rw [bP (by simp only [len, asI_len]; omega), oS g, cFits (by simp; omega), oS g, u64_of, ← UInt64.ofNat_add, e1, wi_succ (by omega)]
    have ih := roomsL l L (i + 1) (a + n) nf (out ++ [bufR a n]) d3 hok2 hL (by omega) (by simp at hf; omega) (by simp [ho])
    rw [show out ++ [[⟨UInt64.ofNat a, UInt32.ofNat n, true⟩]] = out ++ [bufR a n] from rfl, ih]
    simp [roomsF]
theorem rooms_eq (L : List Nat) (hok : okL L) (hL : L.length ≤ 1000) (hs : sumL L ≤ 100000) : law28zrooms (asI L) = some (roomsF 0 L) := by
  unfold law28zrooms
  exact roomsL L L 0 0 fuel [] (by rw [List.drop_zero]) hok hL (by omega) (by rw [fuelS]; omega) rfl
theorem okL_sum : ∀ l : List Nat, okL l → sumL l ≤ 700 * l.length
  | [], _ => Nat.le_refl _
  | n :: l, h => by
    obtain ⟨h1, h2⟩ := okL_c h
    have := okL_sum l h2
    rw [sumL_c, List.length_cons]; omega
end Go.Proofs.Ytkjmmbmlapmkbaa
