/- Buffers in plain words: equal lists of segments, the reference's parts and cuts, buffers that may not be. No condition. -/
import Derived.Test.YtkmjpgfbcklopaaPuSegMem
namespace Go.Proofs.Ytkmjpgfbcklopaa
theorem cons_beq {α : Type} [BEq α] {x y : α} {a b : List α} : ((x :: a) == (y :: b)) = (x == y && a == b) := rfl
theorem ksameL (a b : List Seg) (he : a.length = b.length) (hl : a.length ≤ 1000000) : ∀ (nf i : Nat), i ≤ a.length → a.length - i < nf → kit_SameSegsL1 a b nf (i : Int) = some (a.drop i == b.drop i)
  | 0, i, _, h => by omega
  | nf + 1, i, hi, hn => by
    unfold kit_SameSegsL1 kit_SameSegsL1B
    by_cases h : i < a.length
    · have h2 : i < b.length := by omega
      rw [bP (by simp only [len]; omega), oS (ix_nat (getq h)), oS (ix_nat (getq h2)), drop_ix h, drop_ix h2, cons_beq]
      by_cases e : a[i] = b[i]
      · rw [nE e, wi_succ (by omega), ksameL a b he hl nf (i + 1) (by omega) (by omega), e, beqI, Bool.true_and]
      · rw [nF e, beq_false_of_ne e, Bool.false_and]
    · rw [bN (by simp only [len]; omega), List.drop_of_length_le (by omega), List.drop_of_length_le (by omega)]; rfl
theorem ksame_eq (a b : List Seg) (hl : a.length ≤ 1000000) : kit_SameSegs a b = some (a == b) := by
  unfold kit_SameSegs
  by_cases h : a.length = b.length
  · rw [nE (by simp only [len]; omega)]
    have := ksameL a b h hl fuel 0 (by omega) (by unfold fuel; omega)
    exact this
  · rw [nF (by simp only [len]; omega), beq_false_of_ne (fun q => h (by rw [q]))]
/-- the bytes from a on, n of them -/
def cutS (l : List Seg) (a n : Nat) : List Seg := if goodS l then takeS n (dropS a l) else []
theorem segCut_eq (l : List Seg) (a n : UInt64) : seg_Cut l a n = some (cutS l a.toNat n.toNat) := by
  unfold cutS
  by_cases h : goodS l
  · rw [if_pos h]
    have := cut_eq (l := l) (a := a.toNat) (n := n.toNat) h a.toNat_lt n.toNat_lt
    rw [UInt64.ofNat_toNat, UInt64.ofNat_toNat] at this; exact this
  · rw [if_neg h]; unfold seg_Cut; rw [oS (segCheck l), nF (errS_bad h)]
def partS (l : List Seg) (w : Bool) : List Seg := if goodS l then l.filter (fun s => s.Write == w) else []
theorem rpartL (l : List Seg) (w : Bool) (hg : goodS l) : ∀ (nf i : Nat) (out : List Seg), out.length ≤ i → i ≤ l.length → l.length - i < nf → ref_Part05L1 l w nf out (i : Int) = some (out ++ (l.drop i).filter (fun s => s.Write == w))
  | 0, i, out, _, _, h => by omega
  | nf + 1, i, out, ho, hi, hn => by
    have hl := hg.1
    unfold ref_Part05L1 ref_Part05L1B
    by_cases h : i < l.length
    · have hd : l.drop i = l[i] :: l.drop (i + 1) := drop_ix h
      have gi := ix_nat (getq h)
      rw [hd, bP (by simp only [len]; omega), oS (refCheck l), bE (errS_good hg)]
      simp only [oS gi]
      rw [wi_succ (by omega)]
      by_cases hw : l[i].Write = w
      · rw [bE hw, cFits (by simp; omega), rpartL l w hg nf (i + 1) _ (by simp; omega) (by omega) (by omega)]
        rw [List.filter_cons, if_pos (by simpa using hw)]; simp
      · rw [bF hw, rpartL l w hg nf (i + 1) _ (by omega) (by omega) (by omega)]
        rw [List.filter_cons, if_neg (by simpa using hw)]
    · rw [bN (by simp only [len]; omega), List.drop_of_length_le (by omega)]; simp
theorem rpart_eq (l : List Seg) (w : Bool) : ref_Part05 l w = some (partS l w) := by
  unfold ref_Part05 partS
  by_cases h : goodS l
  · rw [if_pos h]
    have := rpartL l w h fuel 0 [] (by simp) (by omega) (by have := h.1; unfold fuel; omega)
    simpa using this
  · rw [if_neg h, fuelS]
    unfold ref_Part05L1 ref_Part05L1B
    by_cases h2 : (0 : Int) < len l
    · rw [bP h2, oS (refCheck l), bF (errS_bad h)]
    · rw [bN h2]
theorem takeS_tl {x : Seg} {r : List Seg} {f n : Nat} (hf : f < x.Len.toNat) : takeS n (dropS f (x :: r)) = (if n = 0 then [] else [⟨x.At + UInt64.ofNat f, UInt32.ofNat (min (x.Len.toNat - f) n), x.Write⟩]) ++ takeS (n - (x.Len.toNat - f)) r := by
  have hx := x.Len.toNat_lt
  by_cases h0 : n = 0
  · rw [if_pos h0, h0, Nat.zero_sub, take0, take0]; rfl
  rw [if_neg h0]
  simp only [dropS]
  by_cases h1 : f = 0
  · subst h1
    rw [if_pos rfl]
    simp only [takeS]
    rw [if_neg h0]
    have ea : x.At + UInt64.ofNat 0 = x.At := by simp
    rw [ea, Nat.sub_zero]
    by_cases h2 : n < x.Len.toNat
    · rw [if_pos h2, Nat.min_eq_right (by omega), show n - x.Len.toNat = 0 by omega, take0]; rfl
    · rw [if_neg h2, Nat.min_eq_left (by omega)]
      have : (⟨x.At, UInt32.ofNat x.Len.toNat, x.Write⟩ : Seg) = x := hd_full x
      rw [this]; rfl
  · rw [if_neg h1, if_pos hf]
    simp only [takeS]
    rw [if_neg h0, tl_len]
    by_cases h2 : n < x.Len.toNat - f
    · rw [if_pos h2, Nat.min_eq_right (by omega), show n - (x.Len.toNat - f) = 0 by omega, take0]; rfl
    · rw [if_neg h2, Nat.min_eq_left (by omega)]; rfl
theorem rcutL (l : List Seg) (hg : goodS l) : ∀ (nf i f n : Nat) (out : List Seg), out.length ≤ i → i ≤ l.length → l.length - i < nf → f < 18446744073709551616 → n < 18446744073709551616 →
    ref_Cut05L1 l nf (UInt64.ofNat f) (UInt64.ofNat n) out (i : Int) = some (out ++ takeS n (dropS f (l.drop i)))
  | 0, i, f, n, out, _, _, h, _, _ => by omega
  | nf + 1, i, f, n, out, ho, hi, hn, bf, bn => by
    have hl := hg.1
    unfold ref_Cut05L1 ref_Cut05L1B
    by_cases h : i < l.length
    · have hd : l.drop i = l[i] :: l.drop (i + 1) := drop_ix h
      have hp := okS_pos hg.2.1 _ (List.getElem_mem h)
      have hx := l[i].Len.toNat_lt
      rw [hd, bP (by simp only [len]; omega), oS (refCheck l), bE (errS_good hg), oS (ix_nat (getq h))]
      by_cases h1 : f < l[i].Len.toNat
      · have e1 : l[i].Len.toUInt64 - UInt64.ofNat f = UInt64.ofNat (l[i].Len.toNat - f) := by
          apply UInt64.toNat_inj.1
          rw [UInt64.toNat_sub_of_le, UInt32.toNat_toUInt64, UInt64.toNat_ofNat', UInt64.toNat_ofNat']
          · omega
          · rw [UInt64.le_iff_toNat_le, UInt64.toNat_ofNat', UInt32.toNat_toUInt64]; omega
        have e2 : minu64 (l[i].Len.toUInt64 - UInt64.ofNat f) (UInt64.ofNat n) = UInt64.ofNat (min (l[i].Len.toNat - f) n) := by
          rw [e1, minu_nat (by omega) (by omega)]
        have e3 : UInt64.ofNat n - UInt64.ofNat (min (l[i].Len.toNat - f) n) = UInt64.ofNat (n - (l[i].Len.toNat - f)) := by
          rw [sub_ofNat (by omega) (by omega)]; congr 1; omega
        rw [bN (by rw [GE.ge, UInt64.le_iff_toNat_le, UInt64.toNat_ofNat', UInt32.toNat_toUInt64]; omega), e2, takeS_tl h1]
        by_cases h2 : n = 0
        · rw [bN (by rw [GT.gt, UInt64.lt_iff_toNat_lt, UInt64.toNat_ofNat']; simp only [UInt64.reduceToNat]; omega)]
          unfold ref_Cut05J2
          rw [e2, e3, wi_succ (by omega), if_pos h2]
          have := rcutL l hg nf (i + 1) 0 (n - (l[i].Len.toNat - f)) out (by omega) (by omega) (by omega) (by omega) (by omega)
          rw [drop0] at this; exact this
        · rw [bP (by rw [GT.gt, UInt64.lt_iff_toNat_lt, UInt64.toNat_ofNat']; simp only [UInt64.reduceToNat]; omega), cFits (by simp; omega)]
          unfold ref_Cut05J2
          rw [e2, e3, wi_succ (by omega), if_neg h2, to32 _ (by omega)]
          have := rcutL l hg nf (i + 1) 0 (n - (l[i].Len.toNat - f)) (out ++ [⟨l[i].At + UInt64.ofNat f, UInt32.ofNat (min (l[i].Len.toNat - f) n), l[i].Write⟩]) (by simp; omega) (by omega) (by omega) (by omega) (by omega)
          rw [drop0, List.append_assoc] at this; exact this
      · have e1 : UInt64.ofNat f - l[i].Len.toUInt64 = UInt64.ofNat (f - l[i].Len.toNat) := by
          apply UInt64.toNat_inj.1
          rw [UInt64.toNat_sub_of_le, UInt32.toNat_toUInt64, UInt64.toNat_ofNat', UInt64.toNat_ofNat']
          · omega
          · rw [UInt64.le_iff_toNat_le, UInt64.toNat_ofNat', UInt32.toNat_toUInt64]; omega
        rw [bP (by rw [GE.ge, UInt64.le_iff_toNat_le, UInt64.toNat_ofNat', UInt32.toNat_toUInt64]; omega), e1, wi_succ (by omega), rcutL l hg nf (i + 1) _ n out (by omega) (by omega) (by omega) (by omega) bn]
        rw [dropS.eq_2 f, if_neg (by omega), if_neg (by omega)]
    · rw [bN (by simp only [len]; omega), List.drop_of_length_le (by omega)]; simp [dropS, takeS]
theorem rcut_eq (l : List Seg) (a n : UInt64) : ref_Cut05 l a n = some (cutS l a.toNat n.toNat) := by
  unfold ref_Cut05 cutS
  by_cases h : goodS l
  · rw [if_pos h]
    have := rcutL l h fuel 0 a.toNat n.toNat [] (by simp) (by omega) (by have := h.1; unfold fuel; omega) a.toNat_lt n.toNat_lt
    rw [UInt64.ofNat_toNat, UInt64.ofNat_toNat, List.nil_append, List.drop_zero] at this; exact this
  · rw [if_neg h, fuelS]
    unfold ref_Cut05L1 ref_Cut05L1B
    by_cases h2 : (0 : Int) < len l
    · rw [bP h2, oS (refCheck l), bF (errS_bad h)]
    · rw [bN h2]
end Go.Proofs.Ytkmjpgfbcklopaa
