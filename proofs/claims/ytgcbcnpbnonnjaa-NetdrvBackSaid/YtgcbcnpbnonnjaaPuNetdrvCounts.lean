/- The law NetdrvCounts in plain words: it answers true. No condition. -/
import Derived.Test.YtgcbcnpbnonnjaaPuNetdrvOne
namespace Go.Proofs.Ytgcbcnpbnonnjaa
def colF (N : UInt64) (x : List UInt8) (feats : UInt64) : Nat → List (List Seg) → List UInt32 → List Frame → Int → List Frame × Int × Int
  | 0, _, _, out, n => (out, n, 0)
  | k + 1, bufs, written, out, n =>
    if bufs.length = 0 then (out, n, 0)
    else if (oneF N x feats bufs written).2.2 ≠ 0 then (out, n, (oneF N x feats bufs written).2.2)
    else colF N x feats k (bufs.drop (oneF N x feats bufs written).2.1.toNat) (written.drop (oneF N x feats bufs written).2.1.toNat) (out ++ [(oneF N x feats bufs written).1]) (n + (oneF N x feats bufs written).2.1)
theorem colL {N : UInt64} {x : List UInt8} (hx : Xx N x) (feats : UInt64) : ∀ (nf k : Nat) (bufs : List (List Seg)) (written : List UInt32) (out : List Frame) (n : Int), bufs.length ≤ k → k < nf → bufs.length = written.length → k ≤ 1000 → out.length + k ≤ 1000 → 0 ≤ n → n + bufs.length ≤ 1000 →
    Xz ⟨rg N, [x]⟩ feats nf bufs written out n = some (colF N x feats k bufs written out n)
  | 0, k, bufs, written, out, n, _, h, _, _, _, _, _ => absurd h (Nat.not_lt_zero _)
  | nf + 1, k, bufs, written, out, n, hb, hk, he, hk2, ho, hn0, hn1 => by
    unfold Xz YC
    by_cases h0 : bufs.length = 0
    · rw [bN (by simp only [len]; omega)]
      cases k with
      | zero => rfl
      | succ k => unfold colF; rw [if_pos h0]
    · cases k with
      | zero => omega
      | succ k =>
        rw [bP (by simp only [len]; omega), oS (one_eq hx feats bufs written (by omega) (by omega))]
        unfold colF
        rw [if_neg h0]
        by_cases h1 : (oneF N x feats bufs written).2.2 = 0
        · obtain ⟨c1, c2, c3⟩ := one_cnt h1
          generalize oneF N x feats bufs written = r at *
          rw [nE h1, if_neg (by simp [h1]), Kn (by simp only [List.length_cons, List.length_nil]; omega), cD2 (by simp only [len]; omega), cD2 (by simp only [len]; omega), YN, YN, show wi (n + r.2.1) = n + r.2.1 from wi_in (by omega) (by omega)]
          exact colL hx feats nf k _ _ _ _ (by rw [List.length_drop]; omega) (by omega) (by rw [List.length_drop, List.length_drop]; omega) (by omega) (by rw [List.length_append, List.length_singleton]; omega) (by omega) (by rw [List.length_drop]; omega)
        · rw [nF h1, if_pos h1]
theorem kframe_refl (f : Frame) : kit_Frame f f = some true := by rw [kitFrame_eq]; simp
theorem ksegsN (l : List Seg) (h : l.length ≤ 1000000) : kit_Segs l = some l := by unfold kit_Segs; rw [Kn (by simp; omega)]
theorem kbufsL (l : List (List Seg)) (hl : l.length ≤ 1000) (hy : ∀ y ∈ l, y.length ≤ 1000) : ∀ (nf i : Nat), i ≤ l.length → l.length - i < nf → kit_BufsL1 l nf (l.take i) (i : Int) = some l
  | 0, i, _, h => by omega
  | nf + 1, i, hi, hn => by
    unfold kit_BufsL1 kit_BufsL1B
    by_cases h : i < l.length
    · rw [bP (by simp only [len]; omega), oS (ZF (getq h)), oS (ksegsN _ (by have := hy l[i] (List.getElem_mem h); omega)), Kn (by simp; omega), Zt (by omega)]
      have e : l.take i ++ [l[i]] = l.take (i + 1) := by rw [List.take_succ_eq_append_getElem h]
      rw [e]; exact kbufsL l hl hy nf (i + 1) (by omega) (by omega)
    · rw [bN (by simp only [len]; omega), List.take_of_length_le (by omega)]
theorem kbufs_eq (l : List (List Seg)) (hl : l.length ≤ 1000) (hy : ∀ y ∈ l, y.length ≤ 1000) : kit_Bufs l = some l := by
  have := kbufsL l hl hy fuel 0 (by omega) (by unfold fuel; omega)
  rw [List.take_zero] at this
  exact this
end Go.Proofs.Ytgcbcnpbnonnjaa
