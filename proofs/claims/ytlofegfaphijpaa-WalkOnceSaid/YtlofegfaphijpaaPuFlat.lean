/- A memory of one region from 0 on, as one list of bytes. No condition. -/
import Derived.Test.YtlofegfaphijpaaPuSegMore
namespace Go.Proofs.Ytlofegfaphijpaa
/-- one region from 0 on -/
def rg (n : UInt64) : List Region := [⟨0, n⟩]
def rdF (x : List UInt8) (a n : Nat) : List UInt8 := (x.drop a).take n
def flatOk (n : UInt64) (x : List UInt8) : Prop := 0 < n.toNat ∧ n.toNat ≤ 1048576 ∧ x.length = n.toNat
theorem rg_good {n : UInt64} (h0 : 0 < n.toNat) (h1 : n.toNat ≤ 1048576) : goodM (rg n) := by
  refine ⟨by simp [rg], ?_, by simp [rg, sumM]; exact h1⟩
  simp only [rg, okA, Bool.and_true, decide_eq_true_eq]
  refine ⟨h0, ?_, Nat.zero_le _⟩
  show (0 : UInt64).toNat + _ ≤ _
  simp only [UInt64.reduceToNat]; omega
theorem flat_mem {n : UInt64} {x : List UInt8} (h : flatOk n x) : memOk (rg n) [x] := by
  refine ⟨rg_good h.1 h.2.1, rfl, fun i r y h1 h2 => ?_⟩
  cases i with
  | zero => simp [rg] at h1 h2; subst h1; subst h2; exact h.2.2
  | succ i => simp [rg] at h1
theorem find1 (n : UInt64) (a k : Nat) : findR (rg n) a k = if 0 < k ∧ a + k ≤ n.toNat then some 0 else none := by
  unfold findR
  by_cases h : k = 0
  · rw [if_pos h, if_neg (by omega)]
  · rw [if_neg h]
    simp only [rg, List.findIdx?_cons, List.findIdx?_nil]
    have e : inR a k (⟨0, n⟩ : Region) = decide (a + k ≤ n.toNat) := by
      unfold inR; simp only [UInt64.reduceToNat]
      by_cases q : a + k ≤ n.toNat
      · rw [decide_eq_true q, decide_eq_true (by omega)]
      · rw [decide_eq_false q, decide_eq_false (by omega)]
    rw [e]
    by_cases q : a + k ≤ n.toNat
    · rw [decide_eq_true q, if_pos (show 0 < k ∧ a + k ≤ n.toNat from ⟨by omega, q⟩)]; rfl
    · rw [decide_eq_false q, if_neg (show ¬ (0 < k ∧ a + k ≤ n.toNat) from fun z => q z.2)]; rfl
theorem read1 {n : UInt64} {x : List UInt8} (a k : Nat) : readR (rg n) [x] a k = if 0 < k ∧ a + k ≤ n.toNat then some (rdF x a k) else none := by
  unfold readR
  rw [find1]
  by_cases q : 0 < k ∧ a + k ≤ n.toNat
  · rw [if_pos q, if_pos q]; simp [rg, rdF]
  · rw [if_neg q, if_neg q]
theorem write1 {n : UInt64} {x : List UInt8} (a : Nat) (xs : List UInt8) : writeR (rg n) [x] a xs = if 0 < xs.length ∧ a + xs.length ≤ n.toNat then some [wrF x a xs] else none := by
  unfold writeR
  rw [find1]
  by_cases q : 0 < xs.length ∧ a + xs.length ≤ n.toNat
  · rw [if_pos q, if_pos q]; simp [rg, wrF]
  · rw [if_neg q, if_neg q]
theorem wrF_ok {n : UInt64} {x : List UInt8} {a : Nat} {xs : List UInt8} (h : flatOk n x) (q : a + xs.length ≤ n.toNat) : flatOk n (wrF x a xs) :=
  ⟨h.1, h.2.1, by rw [wrF_len (by rw [h.2.2]; exact q)]; exact h.2.2⟩
theorem has1 (n : UInt64) (s : Seg) : hasS (rg n) s = decide (0 < s.Len.toNat ∧ s.At.toNat + s.Len.toNat ≤ n.toNat) := by
  unfold hasS; rw [find1]
  by_cases q : 0 < s.Len.toNat ∧ s.At.toNat + s.Len.toNat ≤ n.toNat
  · rw [if_pos q, decide_eq_true q]; rfl
  · rw [if_neg q, decide_eq_false q]; rfl
/-- all segments lie within n bytes -/
def inF (n : Nat) (ss : List Seg) : Prop := ∀ s ∈ ss, s.At.toNat + s.Len.toNat ≤ n
instance (n : Nat) (ss : List Seg) : Decidable (inF n ss) := by unfold inF; infer_instance
theorem all_has {n : UInt64} {ss : List Seg} (hp : posS ss) : ss.all (hasS (rg n)) = true ↔ inF n.toNat ss := by
  rw [List.all_eq_true]
  constructor
  · intro h s hs
    have := h s hs
    rw [has1, decide_eq_true_eq] at this; exact this.2
  · intro h s hs
    rw [has1, decide_eq_true_eq]; exact ⟨hp s hs, h s hs⟩
theorem inE1 (n : UInt64) (ss : List Seg) : inE (rg n) ss = if errS ss = 0 then (if inF n.toNat ss then 0 else 5) else errS ss := by
  unfold inE
  by_cases h : errS ss = 0
  · rw [if_pos h, if_pos h]
    have hp := okS_pos (errS_zero.1 h).2.1
    by_cases q : inF n.toNat ss
    · rw [if_pos q, (all_has hp).2 q]; rfl
    · rw [if_neg q]
      cases e : ss.all (hasS (rg n)) with
      | true => exact absurd ((all_has hp).1 e) q
      | false => rfl
  · rw [if_neg h, if_neg h]
theorem rdF_len {x : List UInt8} {a n : Nat} (h : a + n ≤ x.length) : (rdF x a n).length = n := by
  simp only [rdF, List.length_take, List.length_drop]; omega
theorem zer1 (n : UInt64) : zer (rg n) = [List.replicate n.toNat 0] := rfl
/-- what a new memory of n bytes holds -/
def z1 (n : UInt64) : List UInt8 := List.replicate n.toNat 0
theorem z1_ok {n : UInt64} (h0 : 0 < n.toNat) (h1 : n.toNat ≤ 1048576) : flatOk n (z1 n) := ⟨h0, h1, by simp [z1]⟩
theorem new1_eq {n : UInt64} (h0 : 0 < n.toNat) (h1 : n.toNat ≤ 1048576) : gmem_New (rg n) = some (some ⟨rg n, [z1 n]⟩, 0) := by
  rw [new_ok (rg_good h0 h1), zer1]; rfl
theorem write1_eq {n : UInt64} {x : List UInt8} (h : flatOk n x) (a : UInt64) (xs : List UInt8) (q : a.toNat + xs.length ≤ n.toNat) : gmem_Mem_Write ⟨rg n, [x]⟩ a xs = some ((0 : Int), [wrF x a.toNat xs]) := by
  have hn := h.2.1
  rw [write_eqM ⟨rg n, [x]⟩ (flat_mem h) a xs (by omega)]
  by_cases e : xs = []
  · rw [if_pos e, e, wrF_nil]
  · have : 0 < xs.length := List.length_pos_iff.2 e
    rw [if_neg e]
    dsimp only
    rw [write1, if_pos ⟨this, q⟩]
end Go.Proofs.Ytlofegfaphijpaa
