/- Plain words, part 2: steps whose conditions are known; parts of lists. No program in sight; no condition. -/
import Derived.Test.YtlofegfaphijpaaPuLib
namespace Go.Proofs.Ytlofegfaphijpaa
section
variable {ρ : Type} {p : Prop} [Decidable p] {x y k : Option ρ}
theorem bP (h : p) : br (decide p) x y = x := by rw [decide_eq_true h]; rfl
theorem bN (h : ¬ p) : br (decide p) x y = y := by rw [decide_eq_false h]; rfl
theorem cP (h : p) : chk (decide p) k = k := by rw [decide_eq_true h]; rfl
variable {α : Type} [BEq α] [LawfulBEq α] {a b : α}
theorem bE (h : a = b) : br (a == b) x y = x := by subst h; rw [beqI]; rfl
theorem bF (h : a ≠ b) : br (a == b) x y = y := by rw [beq_false_of_ne h]; rfl
theorem nE (h : a = b) : br (a != b) x y = y := by subst h; rw [bneI]; rfl
theorem nF (h : a ≠ b) : br (a != b) x y = x := by
  have : (a != b) = true := by simpa using h
  rw [this]; rfl
theorem cE (h : a = b) : chk (a == b) k = k := by subst h; rw [beqI]; rfl
theorem cnF (h : a ≠ b) : chk (!(a == b)) k = k := by rw [beq_false_of_ne h]; rfl
theorem cnE (h : a = b) : chk (!(a != b)) k = k := by subst h; rw [bneI]; rfl
theorem bT {c : Bool} (h : c = true) : br c x y = x := by subst h; rfl
theorem bFl {c : Bool} (h : c = false) : br c x y = y := by subst h; rfl
theorem cFits {m n q : Nat} (h : (m + n) * q ≤ 140737488355328) : chk (fits m n q) k = k := by rw [fits_ok h]; rfl
end
theorem oS {α ρ : Type} {x : Option α} {a : α} {k : α → Option ρ} (h : x = some a) : ob x k = k a := by subst h; rfl
theorem ix_nat {α : Type} {l : List α} {i : Nat} {x : α} (h : l[i]? = some x) : ix l (i : Int) = some x := by simp [ix, h]
theorem sub_nat {α : Type} (l : List α) (i j : Nat) : sub l (i : Int) (j : Int) = (l.drop i).take (j - i) := by simp [sub]
theorem u64_of (n : Nat) : u64 (n : Int) = UInt64.ofNat n := by
  apply UInt64.toNat_inj.1
  simp only [u64, UInt64.toNat_ofNat']; omega
theorem i64_of {x : UInt64} (h : x.toNat ≤ 9223372036854775807) : i64 x = (x.toNat : Int) := wi_nat h
theorem getq {α : Type} {l : List α} {i : Nat} (h : i < l.length) : l[i]? = some l[i] := List.getElem?_eq_getElem h
end Go.Proofs.Ytlofegfaphijpaa
