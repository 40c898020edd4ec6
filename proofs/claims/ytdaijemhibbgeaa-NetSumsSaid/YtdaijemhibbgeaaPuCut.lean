/- Parts of buffers in plain words: the first n bytes, what is behind them; equal lists; the read and the written parts. No condition. -/
import Derived.Test.YtdaijemhibbgeaaPuSeg
namespace Go.Proofs.Ytdaijemhibbgeaa
def hdS (x : Seg) (k : Nat) : Seg := ⟨x.At, UInt32.ofNat k, x.Write⟩
def tlS (x : Seg) (k : Nat) : Seg := ⟨x.At + UInt64.ofNat k, UInt32.ofNat (x.Len.toNat - k), x.Write⟩
def takeS : Nat → List Seg → List Seg
  | _, [] => []
  | n, x :: r => if n = 0 then [] else if n < x.Len.toNat then [hdS x n] else x :: takeS (n - x.Len.toNat) r
def dropS : Nat → List Seg → List Seg
  | _, [] => []
  | n, x :: r => if n = 0 then x :: r else if n < x.Len.toNat then tlS x n :: r else dropS (n - x.Len.toNat) r
theorem take0 (l : List Seg) : takeS 0 l = [] := by cases l <;> simp [takeS]
theorem drop0 (l : List Seg) : dropS 0 l = l := by cases l <;> simp [dropS]
def posS (l : List Seg) : Prop := ∀ s ∈ l, 0 < s.Len.toNat
theorem okS_pos : ∀ {w : Bool} {l : List Seg}, okS w l = true → posS l
  | _, [], _ => fun s h => by cases h
  | w, x :: r, h => by
    simp only [okS, Bool.and_eq_true, decide_eq_true_eq] at h
    intro s hs
    rcases List.mem_cons.1 hs with e | e
    · subst e; exact h.1.1
    · exact okS_pos h.2 s e
theorem hd_len {x : Seg} {n : Nat} (h : n < x.Len.toNat) : (hdS x n).Len.toNat = n := by
  have := x.Len.toNat_lt
  simp only [hdS, UInt32.toNat_ofNat']; omega
theorem tl_len {x : Seg} {n : Nat} : (tlS x n).Len.toNat = x.Len.toNat - n := by
  have := x.Len.toNat_lt
  simp only [tlS, UInt32.toNat_ofNat']; omega
theorem take_take : ∀ (m n : Nat) (l : List Seg), takeS m (takeS n l) = takeS (min m n) l
  | m, n, [] => rfl
  | m, n, x :: r => by
    rw [takeS.eq_2 n]
    by_cases h0 : n = 0
    · rw [if_pos h0, h0]; simp [take0, takeS]
    · rw [if_neg h0]
      by_cases h1 : n < x.Len.toNat
      · rw [if_pos h1]
        simp only [takeS, hd_len h1]
        by_cases hm : m = 0
        · rw [if_pos hm, if_pos (show min m n = 0 by omega)]
        · by_cases hm2 : m < n
          · rw [if_neg hm, if_pos hm2, if_neg (show ¬ min m n = 0 by omega), if_pos (show min m n < x.Len.toNat by omega), show min m n = m by omega]; rfl
          · rw [if_neg hm, if_neg hm2, if_neg (show ¬ min m n = 0 by omega), if_pos (show min m n < x.Len.toNat by omega), show min m n = n by omega]
      · rw [if_neg h1]
        simp only [takeS]
        by_cases hm : m = 0
        · rw [if_pos hm, if_pos (show min m n = 0 by omega)]
        · by_cases hm2 : m < x.Len.toNat
          · rw [if_neg hm, if_pos hm2, if_neg (show ¬ min m n = 0 by omega), if_pos (show min m n < x.Len.toNat by omega), show min m n = m by omega]
          · rw [if_neg hm, if_neg hm2, if_neg (show ¬ min m n = 0 by omega), if_neg (show ¬ min m n < x.Len.toNat by omega), take_take, show min (m - x.Len.toNat) (n - x.Len.toNat) = min m n - x.Len.toNat by omega]
theorem drop_take : ∀ (m n : Nat) (l : List Seg), posS l → dropS m (takeS n l) = takeS (n - m) (dropS m l)
  | m, n, [], _ => rfl
  | m, n, x :: r, hp => by
    have hx := hp x (by simp)
    have hr : posS r := fun s hs => hp s (by simp [hs])
    have hb := x.Len.toNat_lt
    by_cases hm : m = 0
    · rw [hm, drop0, drop0, Nat.sub_zero]
    rw [takeS.eq_2 n, dropS.eq_2 m x r, if_neg hm]
    by_cases h0 : n = 0
    · rw [if_pos h0, h0, Nat.zero_sub, take0]; rfl
    · rw [if_neg h0]
      by_cases h1 : n < x.Len.toNat
      · rw [if_pos h1]
        simp only [dropS, hd_len h1, if_neg hm]
        by_cases h2 : m < n
        · rw [if_pos h2, if_pos (by omega), takeS.eq_2, if_neg (by omega), tl_len, if_pos (by omega)]
          congr 1
          unfold tlS hdS
          simp only [Seg.mk.injEq, and_true, true_and]
          apply UInt32.toNat_inj.1
          simp only [UInt32.toNat_ofNat']; omega
        · rw [if_neg h2, show n - m = 0 by omega, take0]
      · rw [if_neg h1, dropS.eq_2 m, if_neg hm]
        by_cases h2 : m < x.Len.toNat
        · rw [if_pos h2, if_pos h2, takeS.eq_2, if_neg (by omega), tl_len, if_neg (by omega), show n - m - (x.Len.toNat - m) = n - x.Len.toNat by omega]
        · rw [if_neg h2, if_neg h2, drop_take _ _ r hr, show n - x.Len.toNat - (m - x.Len.toNat) = n - m by omega]
theorem partL (l : List Seg) (w : Bool) (hl : l.length ≤ 64) : ∀ (nf i : Nat) (out : List Seg), out.length ≤ i → i ≤ l.length → l.length - i < nf → seg_PartL1 l w nf out (i : Int) = some (out ++ (l.drop i).filter (fun s => s.Write == w))
  | 0, i, out, _, _, h => by omega
  | nf + 1, i, out, ho, hi, hn => by
    unfold seg_PartL1 seg_PartL1B
    by_cases h : i < l.length
    · have hd : l.drop i = l[i] :: l.drop (i + 1) := drop_ix h
      rw [hd, bP (by simp only [len]; omega), oS (ix_nat (getq h)), wi_succ (by omega)]
      by_cases hw : l[i].Write = w
      · rw [bE hw, cFits (by simp; omega), partL l w hl nf (i + 1) _ (by simp; omega) (by omega) (by omega)]
        rw [List.filter_cons, if_pos (by simpa using hw)]; simp
      · rw [bF hw, partL l w hl nf (i + 1) _ (by omega) (by omega) (by omega)]
        rw [List.filter_cons, if_neg (by simpa using hw)]
    · rw [bN (by simp only [len]; omega), List.drop_of_length_le (by omega)]; simp
theorem part_eq {l : List Seg} (h : goodS l) (w : Bool) : seg_Part l w = some (l.filter (fun s => s.Write == w)) := by
  unfold seg_Part
  rw [oS (segCheck l), nE (errS_good h)]
  have := partL l w h.1 fuel 0 [] (by simp) (by omega) (by have := h.1; unfold fuel; omega)
  simpa using this
end Go.Proofs.Ytdaijemhibbgeaa
