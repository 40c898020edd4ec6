/- Buffers that are built: chains and tables. No condition. -/
import Derived.Test.YtlofegfaphijpaaPuSeg
import Derived.Test.YtlofegfaphijpaaPuDesc
namespace Go.Proofs.Ytlofegfaphijpaa
/-- what stands at a place; a list by its places -/
def genL {α : Type} (f : Nat → α) : Nat → Nat → List α
  | _, 0 => []
  | i, k + 1 => f i :: genL f (i + 1) k
theorem genL_len {α : Type} (f : Nat → α) : ∀ (k i : Nat), (genL f i k).length = k
  | 0, _ => rfl
  | k + 1, i => by simp only [genL, List.length_cons, genL_len f k]
theorem genL_get {α : Type} (f : Nat → α) : ∀ (k i j : Nat), j < k → (genL f i k)[j]? = some (f (i + j))
  | 0, _, _, h => absurd h (Nat.not_lt_zero _)
  | k + 1, i, 0, _ => rfl
  | k + 1, i, j + 1, h => by
    simp only [genL, List.getElem?_cons_succ]
    rw [genL_get f k (i + 1) j (by omega)]
    exact congrArg (fun t => some (f t)) (by omega)
theorem genL_snoc {α : Type} (f : Nat → α) : ∀ (k i : Nat), genL f i (k + 1) = genL f i k ++ [f (i + k)]
  | 0, i => rfl
  | k + 1, i => by
    rw [genL, genL_snoc f k (i + 1), genL, List.cons_append, show i + 1 + k = i + (k + 1) by omega]
theorem mgpB (q k : Int) : ∀ m : List (Int × Bool), mget false q (mput k true m) = if q = k then true else mget false q m
  | [] => by
    by_cases h : q = k
    · subst h; simp [mput, mget]
    · simp [mput, mget, h]
  | p :: r => by
    unfold mput
    by_cases h : k = p.1
    · rw [show (k == p.1) = true by simp [h]]
      simp only [cond_true, mget]
      by_cases h2 : q = k
      · rw [if_pos h2, h2, beqI]; rfl
      · have h3 : q ≠ p.1 := fun z => h2 (z.trans h.symm)
        rw [if_neg h2, beq_false_of_ne h2, beq_false_of_ne h3]; rfl
    · rw [show (k == p.1) = false by simp [h]]
      simp only [cond_false, mget]
      by_cases h2 : q = p.1
      · have : q ≠ k := fun z => h (z.symm.trans h2)
        simp [h2, this] at *
        simp [Ne.symm h]
      · simp only [beq_false_of_ne h2, cond_false]; exact mgpB q k r
/-! the document's -/
end Go.Proofs.Ytlofegfaphijpaa
