/- A chain that lies in memory, and what walking it reads. No condition. -/
import Derived.Test.YtlofegfaphijpaaPuWalkOps
namespace Go.Proofs.Ytlofegfaphijpaa
theorem genL_mem {α : Type} (f : Nat → α) (x : α) : ∀ (k i : Nat), x ∈ genL f i k ↔ ∃ j, i ≤ j ∧ j < i + k ∧ f j = x
  | 0, i => by
    constructor
    · intro h; cases h
    · rintro ⟨j, h1, h2, _⟩; omega
  | k + 1, i => by
    rw [genL, List.mem_cons, genL_mem f x k (i + 1)]
    constructor
    · rintro (h | ⟨j, h1, h2, h3⟩)
      · exact ⟨i, by omega, by omega, h.symm⟩
      · exact ⟨j, by omega, by omega, h3⟩
    · rintro ⟨j, h1, h2, h3⟩
      by_cases q : j = i
      · left; rw [← h3, q]
      · right; exact ⟨j, by omega, by omega, h3⟩
theorem has_mem {k : Int} {l : List Int} : l.contains k = true ↔ k ∈ l := by simp
/-- parts that are not written stay -/
theorem rdF_off {x xs : List UInt8} {a b n : Nat} (h : a + xs.length ≤ x.length) (q : b + n ≤ a ∨ a + xs.length ≤ b) : rdF (wrF x a xs) b n = rdF x b n := by
  unfold rdF wrF
  rcases q with q | q
  · apply List.ext_getElem?
    intro i
    by_cases hi : i < n
    · rw [List.getElem?_take_of_lt hi, List.getElem?_take_of_lt hi, List.getElem?_drop, List.getElem?_drop, List.append_assoc, List.getElem?_append_left (by rw [List.length_take]; omega), List.getElem?_take_of_lt (by omega)]
    · rw [List.getElem?_eq_none (by rw [List.length_take]; omega), List.getElem?_eq_none (by rw [List.length_take]; omega)]
  · have e : (x.take a ++ xs).length = a + xs.length := by rw [List.length_append, List.length_take]; omega
    rw [List.drop_append, e, List.drop_eq_nil_of_le (by rw [e]; exact q), List.nil_append, List.drop_drop]
    congr 2; omega
theorem rdF_on {x xs : List UInt8} {a : Nat} (h : a + xs.length ≤ x.length) : rdF (wrF x a xs) a xs.length = xs := by
  unfold rdF wrF
  rw [List.append_assoc, List.drop_append, List.length_take, List.drop_eq_nil_of_le (by rw [List.length_take]; omega), List.nil_append, show a - min a x.length = 0 by omega, List.drop_zero, List.take_left]
theorem dAt_bs {x : List UInt8} {a : Nat} {d : Desc} (h : rdF x a 16 = bsD d) : dAt x a = d := by
  unfold dAt dOf; rw [h, read_bytesD]
/-- numbers that differ -/
def apart (W : Nat → Nat) (m : Nat) : Prop := ∀ i j, i < j → j < m → W i ≠ W j
/-- the numbers that were seen so far -/
def seenN (W : Nat → Nat) (i : Nat) : List Int := genL (fun j => (W j : Int)) 0 i
theorem seenN_snoc (W : Nat → Nat) (i : Nat) : seenN W i ++ [(W i : Int)] = seenN W (i + 1) := by
  unfold seenN; rw [genL_snoc, Nat.zero_add]
theorem seenN_not {W : Nat → Nat} {m i : Nat} (h : apart W m) (hi : i < m) : (seenN W i).contains (W i : Int) = false := by
  cases e : (seenN W i).contains (W i : Int) with
  | false => rfl
  | true =>
    obtain ⟨j, _, h2, h3⟩ := (genL_mem _ _ _ _).1 (has_mem.1 e)
    exact absurd (by omega) (h j i (by omega) hi)
theorem seenN_has {W : Nat → Nat} {m j : Nat} (hj : j < m) : (seenN W m).contains (W j : Int) = true := has_mem.2 ((genL_mem _ _ _ _).2 ⟨j, by omega, by omega, rfl⟩)
/-- a chain of m that lies at numbers W, with descriptors D -/
structure layW (N : Nat) (x : List UInt8) (a : UInt64) (size : Int) (W : Nat → Nat) (D : Nat → Desc) (m : Nat) : Prop where
  ap : apart W m
  rng : ∀ i, i < m → (W i : Int) < size
  mem : ∀ i, i < m → plK a (W i) + 16 ≤ N
  at_ : ∀ i, i < m → dAt x (plK a (W i)) = D i
  noT : ∀ i, i < m → (D i).Flags &&& 4 = 0
  nxt : ∀ i, i + 1 < m → ¬ (D i).Flags &&& 1 = 0 ∧ i16 (D i).Next = (W (i + 1) : Int)
theorem chain_run {N : Nat} {x : List UInt8} {a : UInt64} {size : Int} {W : Nat → Nat} {D : Nat → Desc} {m : Nat} (h : layW N x a size W D m) (tb : Desc → Nat → List Seg → Int × Nat × List Seg) : ∀ (c i f n : Nat) (l : List Seg), i + c + 1 = m →
    chF N x a size tb (f + (c + 1)) (W i : Int) (seenN W i) n l = if (D (m - 1)).Flags &&& 1 = 0 then (0, n + (c + 1), l ++ genL (fun j => mkS (D j)) i (c + 1)) else chF N x a size tb f (i16 (D (m - 1)).Next) (seenN W m) (n + (c + 1)) (l ++ genL (fun j => mkS (D j)) i (c + 1))
  | 0, i, f, n, l, hc => by
    rw [Nat.zero_add, chF, if_neg (by
      rintro (q | q | q)
      · rw [seenN_not h.ap (by omega)] at q; cases q
      · omega
      · have := h.rng i (by omega); omega), if_neg (by simpa using h.mem i (by omega)), h.at_ i (by omega), if_neg (by simp [h.noT i (by omega)])]
    rw [show m - 1 = i by omega]
    by_cases q : (D i).Flags &&& 1 = 0
    · rw [if_pos q, if_pos q]; rfl
    · rw [if_neg q, if_neg q, seenN_snoc, show i + 1 = m by omega]; rfl
  | c + 1, i, f, n, l, hc => by
    rw [show f + (c + 1 + 1) = f + (c + 1) + 1 by omega, chF, if_neg (by
      rintro (q | q | q)
      · rw [seenN_not h.ap (by omega)] at q; cases q
      · omega
      · have := h.rng i (by omega); omega), if_neg (by simpa using h.mem i (by omega)), h.at_ i (by omega), if_neg (by simp [h.noT i (by omega)])]
    have hx := h.nxt i (by omega)
    rw [if_neg hx.1, hx.2, seenN_snoc, chain_run h tb c (i + 1) f (n + 1) _ (by omega), genL]
    by_cases q : (D (m - 1)).Flags &&& 1 = 0
    · rw [if_pos q, if_pos q, List.append_assoc, show n + 1 + (c + 1) = n + (c + 1 + 1) by omega]; rfl
    · rw [if_neg q, if_neg q, List.append_assoc, show n + 1 + (c + 1) = n + (c + 1 + 1) by omega]; rfl
/-- the whole, as the ring is walked from its head -/
theorem chain_all {N : Nat} {x : List UInt8} {a : UInt64} {size : Int} {W : Nat → Nat} {D : Nat → Desc} {m : Nat} (h : layW N x a size W D m) (hm : 0 < m) (tb : Desc → Nat → List Seg → Int × Nat × List Seg) (f n : Nat) (hf : m ≤ f) (l : List Seg) :
    chF N x a size tb f (W 0 : Int) [] n l = if (D (m - 1)).Flags &&& 1 = 0 then (0, n + m, l ++ genL (fun j => mkS (D j)) 0 m) else chF N x a size tb (f - m) (i16 (D (m - 1)).Next) (seenN W m) (n + m) (l ++ genL (fun j => mkS (D j)) 0 m) := by
  have := chain_run h tb (m - 1) 0 (f - m) n l (by omega)
  rw [show m - 1 + 1 = m by omega, show f - m + m = f by omega] at this
  exact this
/-- a chain that comes back to a number it had is refused there -/
theorem chain_back {N : Nat} {x : List UInt8} {a : UInt64} {size : Int} {W : Nat → Nat} {m j : Nat} (hj : j < m) (tb : Desc → Nat → List Seg → Int × Nat × List Seg) : ∀ (f n : Nat) (l : List Seg),
    chF N x a size tb f (W j : Int) (seenN W m) n l = (4, n, l)
  | 0, _, _ => rfl
  | f + 1, n, l => by rw [chF, if_pos (Or.inl (seenN_has hj))]
end Go.Proofs.Ytlofegfaphijpaa
