/- The engine: rules for stepping through code. No statement of the seat is proved here; no condition. -/
import Derived.Test.YtjfdamiilndgeaaGe1
section
namespace Go.Proofs.Ytjfdamiilndgeaa
section
variable {ρ : Type} {p : Prop} [Decidable p] {x y k : Option ρ}
theorem bP (h : p) : br (decide p) x y = x := by rw [decide_eq_true h]; rfl
theorem bN (h : ¬ p) : br (decide p) x y = y := by rw [decide_eq_false h]; rfl
variable {α : Type} [BEq α] [LawfulBEq α] {a b : α}
theorem bE (h : a = b) : br (a == b) x y = x := by subst h; rw [beqI]; rfl
theorem bF (h : a ≠ b) : br (a == b) x y = y := by rw [beq_false_of_ne h]; rfl
theorem nE (h : a = b) : br (a != b) x y = y := by subst h; rw [bneI]; rfl
theorem nF (h : a ≠ b) : br (a != b) x y = x := by
  have : (a != b) = true := by simpa using h
  rw [this]; rfl
theorem cE (h : a = b) : chk (a == b) k = k := by subst h; rw [beqI]; rfl
theorem cnE (h : a = b) : chk (!(a != b)) k = k := by subst h; rw [bneI]; rfl
theorem cFits {m n q : Nat} (h : (m + n) * q ≤ 140737488355328) : chk (fits m n q) k = k := by rw [fits_ok h]; rfl
end
theorem oS {α ρ : Type} {x : Option α} {a : α} {k : α → Option ρ} (h : x = some a) : ob x k = k a := by subst h; rfl
theorem ix_nat {α : Type} {l : List α} {i : Nat} {x : α} (h : l[i]? = some x) : ix l (i : Int) = some x := by simp [ix, h]
theorem sub_from {α : Type} (l : List α) (i : Int) : sub l i (len l) = l.drop i.toNat := by
  simp only [sub, len, Int.toNat_natCast]
  rw [List.take_of_length_le]; simp
theorem sub_to {α : Type} (l : List α) (i : Int) : sub l 0 i = l.take i.toNat := by simp [sub]
theorem sub_nat {α : Type} (l : List α) (i j : Nat) : sub l (i : Int) (j : Int) = (l.drop i).take (j - i) := by simp [sub]
theorem getq {α : Type} {l : List α} {i : Nat} (h : i < l.length) : l[i]? = some l[i] := List.getElem?_eq_getElem h
end Go.Proofs.Ytjfdamiilndgeaa

end
