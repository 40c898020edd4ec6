/- Parts of buffers in plain words: the first n bytes, what is behind them; equal lists; the read and the written parts. No condition. -/
import Derived.Test.YtlofegfaphijpaaPuSeg
namespace Go.Proofs.Ytlofegfaphijpaa
def hdS (x : Seg) (k : Nat) : Seg := ⟨x.At, UInt32.ofNat k, x.Write⟩
def tlS (x : Seg) (k : Nat) : Seg := ⟨x.At + UInt64.ofNat k, UInt32.ofNat (x.Len.toNat - k), x.Write⟩
def takeS : Nat → List Seg → List Seg
  | _, [] => []
  | n, x :: r => if n = 0 then [] else if n < x.Len.toNat then [hdS x n] else x :: takeS (n - x.Len.toNat) r
def dropS : Nat → List Seg → List Seg
  | _, [] => []
  | n, x :: r => if n = 0 then x :: r else if n < x.Len.toNat then tlS x n :: r else dropS (n - x.Len.toNat) r
theorem take0 (l : List Seg) : takeS 0 l = [] := by cases l <;> simp [takeS]
theorem drop0 (l : List Seg) : dropS 0 l = l := by cases l <;> simp [dropS]
def posS (l : List Seg) : Prop := ∀ s ∈ l, 0 < s.Len.toNat
theorem okS_pos : ∀ {w : Bool} {l : List Seg}, okS w l = true → posS l
  | _, [], _ => fun s h => by cases h
  | w, x :: r, h => by
    simp only [okS, Bool.and_eq_true, decide_eq_true_eq] at h
    intro s hs
    rcases List.mem_cons.1 hs with e | e
    · subst e; exact h.1.1
    · exact okS_pos h.2 s e
theorem hd_len {x : Seg} {n : Nat} (h : n < x.Len.toNat) : (hdS x n).Len.toNat = n := by
  have := x.Len.toNat_lt
  simp only [hdS, UInt32.toNat_ofNat']; omega
theorem tl_len {x : Seg} {n : Nat} : (tlS x n).Len.toNat = x.Len.toNat - n := by
  have := x.Len.toNat_lt
  simp only [tlS, UInt32.toNat_ofNat']; omega
theorem take_take : ∀ (m n : Nat) (l : List Seg), takeS m (takeS n l) = takeS (min m n) l
  | m, n, [] => rfl
  | m, n, x :: r => by
    rw [takeS.eq_2 n]
    by_cases h0 : n = 0
    · rw [if_pos h0, h0]; simp [take0, takeS]
    · rw [if_neg h0]
      by_cases h1 : n < x.Len.toNat
      · rw [if_pos h1]
        simp only [takeS, hd_len h1]
        by_cases hm : m = 0
        · rw [if_pos hm, if_pos (show min m n = 0 by omega)]
        · by_cases hm2 : m < n
          · rw [if_neg hm, if_pos hm2, if_neg (show ¬ min m n = 0 by omega), if_pos (show min m n < x.Len.toNat by omega), show min m n = m by omega]; rfl
          · rw [if_neg hm, if_neg hm2, if_neg (show ¬ min m n = 0 by omega), if_pos (show min m n < x.Len.toNat by omega), show min m n = n by omega]
      · rw [if_neg h1]
        simp only [takeS]
        by_cases hm : m = 0
        · rw [if_pos hm, if_pos (show min m n = 0 by omega)]
        · by_cases hm2 : m < x.Len.toNat
          · rw [if_neg hm, if_pos hm2, if_neg (show ¬ min m n = 0 by omega), if_pos (show min m n < x.Len.toNat by omega), show min m n = m by omega]
          · rw [if_neg hm, if_neg hm2, if_neg (show ¬ min m n = 0 by omega), if_neg (show ¬ min m n < x.Len.toNat by omega), take_take, show min (m - x.Len.toNat) (n - x.Len.toNat) = min m n - x.Len.toNat by omega]
theorem tl_tl {x : Seg} {a b : Nat} (h : a + b ≤ x.Len.toNat) : tlS (tlS x a) b = tlS x (a + b) := by
  have := x.Len.toNat_lt
  have e := tl_len (x := x) (n := a)
  unfold tlS at e ⊢
  simp only [Seg.mk.injEq, and_true]
  refine ⟨by rw [UInt64.add_assoc, ← UInt64.ofNat_add], ?_⟩
  apply UInt32.toNat_inj.1
  simp only [UInt32.toNat_ofNat'] at e ⊢; omega
theorem drop_drop : ∀ (a b : Nat) (l : List Seg), posS l → dropS a (dropS b l) = dropS (b + a) l
  | a, b, [], _ => rfl
  | a, b, x :: r, hp => by
    have hx := hp x (by simp)
    have hr : posS r := fun s hs => hp s (by simp [hs])
    rw [dropS.eq_2 b]
    by_cases h0 : b = 0
    · rw [if_pos h0, h0, Nat.zero_add]
    · rw [if_neg h0]
      by_cases h1 : b < x.Len.toNat
      · rw [if_pos h1]
        simp only [dropS, tl_len]
        by_cases ha : a = 0
        · rw [if_pos ha, if_neg (by omega), if_pos (by omega), ha, Nat.add_zero]
        · by_cases ha2 : a < x.Len.toNat - b
          · rw [if_neg ha, if_pos ha2, if_neg (show ¬ b + a = 0 by omega), if_pos (show b + a < x.Len.toNat by omega), tl_tl (by omega)]
          · rw [if_neg ha, if_neg ha2, if_neg (show ¬ b + a = 0 by omega), if_neg (show ¬ b + a < x.Len.toNat by omega), show a - (x.Len.toNat - b) = b + a - x.Len.toNat by omega]
      · rw [if_neg h1, drop_drop _ _ r hr]
        rw [dropS.eq_2 (b + a), if_neg (by omega), if_neg (by omega), show b - x.Len.toNat + a = b + a - x.Len.toNat by omega]
theorem drop_take : ∀ (m n : Nat) (l : List Seg), posS l → dropS m (takeS n l) = takeS (n - m) (dropS m l)
  | m, n, [], _ => rfl
  | m, n, x :: r, hp => by
    have hx := hp x (by simp)
    have hr : posS r := fun s hs => hp s (by simp [hs])
    have hb := x.Len.toNat_lt
    by_cases hm : m = 0
    · rw [hm, drop0, drop0, Nat.sub_zero]
    rw [takeS.eq_2 n, dropS.eq_2 m x r, if_neg hm]
    by_cases h0 : n = 0
    · rw [if_pos h0, h0, Nat.zero_sub, take0]; rfl
    · rw [if_neg h0]
      by_cases h1 : n < x.Len.toNat
      · rw [if_pos h1]
        simp only [dropS, hd_len h1, if_neg hm]
        by_cases h2 : m < n
        · rw [if_pos h2, if_pos (by omega), takeS.eq_2, if_neg (by omega), tl_len, if_pos (by omega)]
          congr 1
          unfold tlS hdS
          simp only [Seg.mk.injEq, and_true, true_and]
          apply UInt32.toNat_inj.1
          simp only [UInt32.toNat_ofNat']; omega
        · rw [if_neg h2, show n - m = 0 by omega, take0]
      · rw [if_neg h1, dropS.eq_2 m, if_neg hm]
        by_cases h2 : m < x.Len.toNat
        · rw [if_pos h2, if_pos h2, takeS.eq_2, if_neg (by omega), tl_len, if_neg (by omega), show n - m - (x.Len.toNat - m) = n - x.Len.toNat by omega]
        · rw [if_neg h2, if_neg h2, drop_take _ _ r hr, show n - x.Len.toNat - (m - x.Len.toNat) = n - m by omega]
end Go.Proofs.Ytlofegfaphijpaa
