/- Buffers side by side: how they are made, taken apart. No condition. -/
import Derived.Test.YtkjmmbmlapmkbaaPuCons
namespace Go.Proofs.Ytkjmmbmlapmkbaa
theorem lives28 : law28zlives = some true := by kernel_rfl
def asI (l : List Nat) : List Int := l.map fun n : Nat => (n : Int)
theorem asI_len (l : List Nat) : (asI l).length = l.length := by simp [asI]
theorem asI_get {l : List Nat} {i : Nat} (h : i < l.length) : ix (asI l) (i : Int) = some ((l[i] : Nat) : Int) := ix_nat (by simp [asI, getq h])
theorem roomsL : ∀ (l : List Nat) (L : List Nat) (i a nf : Nat) (out : List (List Seg)), L.drop i = l → okL l → L.length ≤ 1000 → a + sumL l ≤ 100000 → l.length < nf → out.length = i →
    law28zroomsL1 (asI L) nf (UInt64.ofNat a) out (i : Int) = some (out ++ roomsF a l)
  | l, L, i, a, 0, out, _, _, _, _, h, _ => absurd h (Nat.not_lt_zero _)
  | [], L, i, a, nf + 1, out, hd, hok, hL, hs, hf, ho => by
    have := drop_end hd
    unfold law28zroomsL1 law28zroomsL1B
    rw [bN (by simp only [len, asI_len]; omega)]; simp [roomsF]
  | n :: l, L, i, a, nf + 1, out, hd, hok, hL, hs, hf, ho => by
    obtain ⟨d1, d2, d3⟩ := drop_get hd
    obtain ⟨hn, hok2⟩ := okL_c hok
    rw [sumL_c] at hs
    have g : ix (asI L) (i : Int) = some (n : Int) := by
      rw [asI_get d1]
      have : L[i] = n := by rw [getq d1] at d2; injection d2
      rw [this]
    unfold law28zroomsL1 law28zroomsL1B
    have e1 : u32 (n : Int) = UInt32.ofNat n := by unfold u32; rw [show ((n : Int) % 4294967296).toNat = n by omega]
    rw [bP (by simp only [len, asI_len]; omega), oS g, cFits (by simp; omega), oS g, u64_of, ← UInt64.ofNat_add, e1, wi_succ (by omega)]
    have ih := roomsL l L (i + 1) (a + n) nf (out ++ [bufR a n]) d3 hok2 hL (by omega) (by simp at hf; omega) (by simp [ho])
    rw [show out ++ [[⟨UInt64.ofNat a, UInt32.ofNat n, true⟩]] = out ++ [bufR a n] from rfl, ih]
    simp [roomsF]
theorem rooms_eq (L : List Nat) (hok : okL L) (hL : L.length ≤ 1000) (hs : sumL L ≤ 100000) : law28zrooms (asI L) = some (roomsF 0 L) := by
  unfold law28zrooms
  exact roomsL L L 0 0 fuel [] (by rw [List.drop_zero]) hok hL (by omega) (by rw [fuelS]; omega) rfl
theorem sumL_app : ∀ a b : List Nat, sumL (a ++ b) = sumL a + sumL b
  | [], b => by simp [sumL]
  | x :: a, b => by rw [List.cons_append, sumL_c, sumL_c, sumL_app a b]; omega
theorem okL_sum : ∀ l : List Nat, okL l → sumL l ≤ 700 * l.length
  | [], _ => Nat.le_refl _
  | n :: l, h => by
    obtain ⟨h1, h2⟩ := okL_c h
    have := okL_sum l h2
    rw [sumL_c, List.length_cons]; omega
theorem rooms_take : ∀ (a k : Nat) (l : List Nat), (roomsF a l).take k = roomsF a (l.take k)
  | a, 0, l => by simp [roomsF]
  | a, k + 1, [] => by simp [roomsF]
  | a, k + 1, n :: l => by simp only [roomsF, List.take_succ_cons, rooms_take (a + n) k l]
theorem rooms_drop : ∀ (a k : Nat) (l : List Nat), (roomsF a l).drop k = roomsF (a + sumL (l.take k)) (l.drop k)
  | a, 0, l => by simp [sumL]
  | a, k + 1, [] => by simp [roomsF]
  | a, k + 1, n :: l => by
    simp only [roomsF, List.drop_succ_cons, List.take_succ_cons, rooms_drop (a + n) k l, sumL_c, Nat.add_assoc]
theorem out_app : ∀ (k : Nat) (a b : List Nat), outF k (a ++ b) = outF k a ++ outF (k - min k (sumL a)) b
  | k, [], b => by simp [outF, sumL]
  | k, n :: a, b => by
    by_cases h : k = 0
    · subst h; rw [out0, out0, Nat.zero_sub, out0]; rfl
    · have e : ∀ c, outF k (n :: c) = min k n :: outF (k - min k n) c := fun c => by
        conv => lhs; unfold outF
        rw [if_neg h]
      rw [List.cons_append, e, e, out_app (k - min k n) a b, sumL_c, List.cons_append]
      refine congrArg (fun t => min k n :: (outF (k - min k n) a ++ outF t b)) ?_
      omega
theorem sum_split (k : Nat) (l : List Nat) : sumL (l.take k) + sumL (l.drop k) = sumL l := by
  rw [← sumL_app, List.take_append_drop]
theorem okL_take {l : List Nat} (h : okL l) (k : Nat) : okL (l.take k) := fun n hn => h n (List.mem_of_mem_take hn)
theorem okL_drop {l : List Nat} (h : okL l) (k : Nat) : okL (l.drop k) := fun n hn => h n (List.mem_of_mem_drop hn)
theorem wordsL (x : List UInt32) (hx : x.length ≤ 1000000) : ∀ (nf i : Nat), i ≤ x.length → x.length - i < nf → kit_WordsL1 x x nf (i : Int) = some true
  | 0, i, _, h => absurd h (Nat.not_lt_zero _)
  | nf + 1, i, hi, hf => by
    unfold kit_WordsL1 kit_WordsL1B
    by_cases h : i < x.length
    · have g := ix_nat (getq h)
      rw [bP (by simp only [len]; omega), oS g, oS g, nE rfl, wi_succ (by omega)]
      exact wordsL x hx nf (i + 1) (by omega) (by omega)
    · rw [bN (by simp only [len]; omega)]
theorem words_eq (x : List UInt32) (hx : x.length ≤ 1000000) : kit_Words x x = some true := by
  unfold kit_Words
  rw [nE rfl]
  exact wordsL x hx fuel 0 (by omega) (by rw [fuelS]; omega)
end Go.Proofs.Ytkjmmbmlapmkbaa
