/- Buffers that are cut hold what the whole holds. No condition. -/
import Derived.Test.YtgcbcnpbnonnjaaPuCuts
namespace Go.Proofs.Ytgcbcnpbnonnjaa
theorem cov_in {n : Nat} (hn : n ≤ 18446744073709551616) {c l : List Seg} (h : Cov c l) : inF n l → inF n c := by
  induction h with
  | nil => exact id
  | whole x c l _ ih => intro h; rw [XZ] at h ⊢; exact ⟨h.1, ih h.2⟩
  | part x y c l e1 e2 e3 e4 _ ih =>
    intro h
    rw [XZ] at h ⊢
    refine ⟨by rw [e1]; omega, ih ?_⟩
    rw [XZ]
    refine ⟨?_, h.2⟩
    have hy := y.Len.toNat_lt
    rw [tl_len]
    unfold tlS
    dsimp only
    rw [UInt64.toNat_add, UInt64.toNat_ofNat']
    have h1 := h.1
    rcases Nat.lt_or_ge (y.At.toNat + x.Len.toNat) 18446744073709551616 with q | q <;> omega
theorem cov_gat (x : List UInt8) {c l : List Seg} (h : Cov c l) : inF x.length l → x.length ≤ 18446744073709551616 → gatF x c = gatF x l := by
  intro h1 h2
  induction h with
  | nil => rfl
  | whole s c l _ ih => rw [XZ] at h1; rw [XO, XO, ih h1.2]
  | part s y c l e1 e2 e3 e4 _ ih =>
    rw [XZ] at h1
    have ht : (tlS y s.Len.toNat).At.toNat = y.At.toNat + s.Len.toNat := by
      have hy := y.Len.toNat_lt
      unfold tlS
      dsimp only
      rw [UInt64.toNat_add, UInt64.toNat_ofNat']
      have := h1.1; omega
    have hi : inF x.length (tlS y s.Len.toNat :: l) := by
      rw [XZ]
      refine ⟨?_, h1.2⟩
      have := h1.1
      rw [ht, tl_len]; omega
    rw [XO, XO, ih hi, XO, ht, tl_len, e1, ← List.append_assoc]
    congr 1
    unfold rdF
    rw [show y.Len.toNat = s.Len.toNat + (y.Len.toNat - s.Len.toNat) by omega, List.take_add, List.drop_drop, show s.Len.toNat + (y.Len.toNat - s.Len.toNat) - s.Len.toNat = y.Len.toNat - s.Len.toNat by omega]

theorem rnew1 {n : UInt64} (h0 : 0 < n.toNat) (h1 : n.toNat ≤ 1048576) : ref_New02 (rg n) = some (some ⟨rg n, [z1 n]⟩, 0) := by
  rw [rnew_ok (rg_good h0 h1)]; rfl

theorem rimage1 {n : UInt64} {x : List UInt8} (h : Xx n x) : Xq ⟨rg n, [x]⟩ = some x := by
  rw [rimage_eq ⟨rg n, [x]⟩ (flat_mem h)]; simp

theorem rscatter1 {n : UInt64} {x : List UInt8} (h : Xx n x) (l : List Seg) (xs : List UInt8) (hx : xs.length ≤ 100000000) (hg : XE l) (hi : inF n.toNat l) : XU ⟨rg n, [x]⟩ l xs = some (((min xs.length (wrS l) : Nat) : Int), (0 : Int), [scatF x (l.filter (fun s => s.Write == true)) xs]) := by
  rw [rscatter_eq ⟨rg n, [x]⟩ (flat_mem h) l xs hx]
  dsimp only
  rw [if_pos (inE1_zero.2 ⟨hg, hi⟩), scat1 (inF_filter hi)]

end Go.Proofs.Ytgcbcnpbnonnjaa
