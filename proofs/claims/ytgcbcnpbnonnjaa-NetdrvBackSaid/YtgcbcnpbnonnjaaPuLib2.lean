/- Plain words, part 2: steps whose conditions are known; parts of lists. No program in sight; no condition. -/
import Derived.Test.YtgcbcnpbnonnjaaPuLib
namespace Go.Proofs.Ytgcbcnpbnonnjaa
section
variable {ρ : Type} {p : Prop} [Decidable p] {x y k : Option ρ}
theorem bP (h : p) : br (decide p) x y = x := by rw [decide_eq_true h]; rfl
theorem bN (h : ¬ p) : br (decide p) x y = y := by rw [decide_eq_false h]; rfl
theorem cP (h : p) : chk (decide p) k = k := by rw [decide_eq_true h]; rfl
theorem cN (h : ¬ p) : chk (!(decide p)) k = k := by rw [decide_eq_false h]; rfl
variable {α : Type} [BEq α] [LawfulBEq α] {a b : α}
theorem bE (h : a = b) : br (a == b) x y = x := by subst h; rw [beqI]; rfl
theorem bF (h : a ≠ b) : br (a == b) x y = y := by rw [beq_false_of_ne h]; rfl
theorem nE (h : a = b) : br (a != b) x y = y := by subst h; rw [bneI]; rfl
theorem nF (h : a ≠ b) : br (a != b) x y = x := by
  have : (a != b) = true := by simpa using h
  rw [this]; rfl
theorem cE (h : a = b) : chk (a == b) k = k := by subst h; rw [beqI]; rfl
theorem cnF (h : a ≠ b) : chk (!(a == b)) k = k := by rw [beq_false_of_ne h]; rfl
theorem cnE (h : a = b) : chk (!(a != b)) k = k := by subst h; rw [bneI]; rfl
theorem bT {c : Bool} (h : c = true) : br c x y = x := by subst h; rfl
theorem bFl {c : Bool} (h : c = false) : br c x y = y := by subst h; rfl
theorem cT {c : Bool} (h : c = true) : chk c k = k := by subst h; rfl
theorem Kn {m n q : Nat} (h : (m + n) * q ≤ 140737488355328) : chk (fits m n q) k = k := by rw [fits_ok h]; rfl
end
theorem oS {α ρ : Type} {x : Option α} {a : α} {k : α → Option ρ} (h : x = some a) : ob x k = k a := by subst h; rfl
theorem ZF {α : Type} {l : List α} {i : Nat} {x : α} (h : l[i]? = some x) : ix l (i : Int) = some x := by simp [ix, h]
theorem YN {α : Type} (l : List α) (i : Int) : sub l i (len l) = l.drop i.toNat := by
  simp only [sub, len, Int.toNat_natCast]
  rw [List.take_of_length_le]; simp
theorem sub_to {α : Type} (l : List α) (i : Int) : sub l 0 i = l.take i.toNat := by simp [sub]
theorem sub_nat {α : Type} (l : List α) (i j : Nat) : sub l (i : Int) (j : Int) = (l.drop i).take (j - i) := by simp [sub]
theorem u16_of (n : Nat) : u16 (n : Int) = UInt16.ofNat n := by
  apply UInt16.toNat_inj.1
  simp only [u16, UInt16.toNat_ofNat']; omega
theorem u32_of (n : Nat) : u32 (n : Int) = UInt32.ofNat n := by
  apply UInt32.toNat_inj.1
  simp only [u32, UInt32.toNat_ofNat']; omega
theorem u64_of (n : Nat) : u64 (n : Int) = UInt64.ofNat n := by
  apply UInt64.toNat_inj.1
  simp only [u64, UInt64.toNat_ofNat']; omega
theorem i64_of {x : UInt64} (h : x.toNat ≤ 9223372036854775807) : i64 x = (x.toNat : Int) := wi_nat h
theorem getq {α : Type} {l : List α} {i : Nat} (h : i < l.length) : l[i]? = some l[i] := List.getElem?_eq_getElem h
theorem word16 (x y : UInt8) : (shl16 x.toUInt16 (8 : UInt64).toNat ||| y.toUInt16).toNat = 256 * x.toNat + y.toNat := by
  have hx := x.toNat_lt; have hy := y.toNat_lt
  have h1 : (shl16 x.toUInt16 (8 : UInt64).toNat).toNat = 256 * x.toNat := by
    simp only [shl16, UInt16.toNat_ofNat', UInt8.toNat_toUInt16, UInt64.reduceToNat]
    rw [show 2 ^ min 8 16 = 256 from rfl]; omega
  rw [UInt16.toNat_or, h1, UInt8.toNat_toUInt16]
  exact (Nat.two_pow_add_eq_or_of_lt (i := 8) hy x.toNat).symm
theorem hi_lo16 (s : UInt16) : 256 * (ZG s (8 : UInt64).toNat).toUInt8.toNat + s.toUInt8.toNat = s.toNat := by
  have hs := s.toNat_lt
  have h1 : (ZG s (8 : UInt64).toNat).toUInt8.toNat = s.toNat / 256 := by
    simp only [ZG, UInt16.toNat_toUInt8, UInt16.toNat_ofNat', UInt64.reduceToNat]
    rw [show 2 ^ min 8 16 = 256 from rfl]; omega
  rw [h1, UInt16.toNat_toUInt8]; omega
end Go.Proofs.Ytgcbcnpbnonnjaa
