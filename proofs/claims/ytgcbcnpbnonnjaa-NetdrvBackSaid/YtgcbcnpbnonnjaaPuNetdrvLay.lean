/- Frames that are laid down; frames as the document reads them. No condition. -/
import Derived.Test.YtgcbcnpbnonnjaaPuCovMem
import Derived.Test.YtgcbcnpbnonnjaaPuFrameRead
namespace Go.Proofs.Ytgcbcnpbnonnjaa
theorem rhasB_eq (f : UInt64) {k : Nat} (h : k < 64) : Kj f (k : Int) = some ((XH f ((u64 (k : Int)).toNat)) % 2 == 1) := by
  unfold Kj
  rw [bP (by omega), bP (by omega)]
theorem cD3 {P : Prop} [Decidable P] {ρ : Type} {k : Option ρ} (h : P) : chk (decide P) k = k := by rw [decide_eq_true h]; rfl
theorem bytesF_ge {f : Frame} (h : okF f) : (ZA f).length ≤ 1518 ∧ 14 ≤ (ZA f).length := by
  rw [bytesF_len]; have := h.2.2.2
  have : (tagB f.Vlan).length ≤ 4 := by unfold tagB; split <;> simp
  omega
theorem rreadHdr_app (h : Hdr) (r : List UInt8) : ref_ReadHdr23 (YL h ++ r) = some (h, 0) := by
  rw [refReadHdr_eq]
  unfold Zp
  rw [bN (by simp only [len, YL, List.length_append, List.length_cons, List.length_nil]; omega)]
  have e := readHdr_eq h
  unfold Zp at e
  rw [bN (by simp only [len, YL, List.length_cons, List.length_nil]; omega)] at e
  exact e
theorem r32 {n : Nat} (h : n ≤ 4000000000) : (UInt32.ofNat n).toNat = n := by rw [UInt32.toNat_ofNat']; omega
theorem r64 {n : Nat} (h : n ≤ 4000000000) : (UInt64.ofNat n).toNat = n := by rw [UInt64.toNat_ofNat']; omega
theorem rdF_wrF {x xs : List UInt8} {a : Nat} (h : a + xs.length ≤ x.length) : rdF (wrF x a xs) a xs.length = xs := by
  unfold rdF wrF
  rw [List.append_assoc, List.drop_left' (by simp; omega)]
  exact List.take_left' rfl
theorem wrF_all {x y : List UInt8} (h : y.length = x.length) : wrF x 0 y = y := by
  unfold wrF
  rw [List.take_zero, List.nil_append, List.drop_of_length_le (by omega), List.append_nil]
end Go.Proofs.Ytgcbcnpbnonnjaa
