/- A memory of one region from 0 on, as one list of bytes. No condition. -/
import Derived.Test.YtgcbcnpbnonnjaaPuSegMore
namespace Go.Proofs.Ytgcbcnpbnonnjaa
def rg (n : UInt64) : List Region := [⟨0, n⟩]
def rdF (x : List UInt8) (a n : Nat) : List UInt8 := (x.drop a).take n
def Xx (n : UInt64) (x : List UInt8) : Prop := 0 < n.toNat ∧ n.toNat ≤ 1048576 ∧ x.length = n.toNat
theorem rg_good {n : UInt64} (h0 : 0 < n.toNat) (h1 : n.toNat ≤ 1048576) : goodM (rg n) := by
  refine ⟨by simp [rg], ?_, by simp [rg, sumM]; exact h1⟩
  simp only [rg, okA, Bool.and_true, decide_eq_true_eq]
  refine ⟨h0, ?_, Nat.zero_le _⟩
  show (0 : UInt64).toNat + _ ≤ _
  simp only [UInt64.reduceToNat]; omega
theorem flat_mem {n : UInt64} {x : List UInt8} (h : Xx n x) : memOk (rg n) [x] := by
  refine ⟨rg_good h.1 h.2.1, rfl, fun i r y h1 h2 => ?_⟩
  cases i with
  | zero => simp [rg] at h1 h2; subst h1; subst h2; exact h.2.2
  | succ i => simp [rg] at h1
theorem Yp (n : UInt64) (a k : Nat) : YU (rg n) a k = if 0 < k ∧ a + k ≤ n.toNat then some 0 else none := by
  unfold YU
  by_cases h : k = 0
  · rw [if_pos h, if_neg (by omega)]
  · rw [if_neg h]
    simp only [rg, List.findIdx?_cons, List.findIdx?_nil]
    have e : inR a k (⟨0, n⟩ : Region) = decide (a + k ≤ n.toNat) := by
      unfold inR; simp only [UInt64.reduceToNat]
      by_cases q : a + k ≤ n.toNat
      · rw [decide_eq_true q, decide_eq_true (by omega)]
      · rw [decide_eq_false q, decide_eq_false (by omega)]
    rw [e]
    by_cases q : a + k ≤ n.toNat
    · rw [decide_eq_true q, if_pos (show 0 < k ∧ a + k ≤ n.toNat from ⟨by omega, q⟩)]; rfl
    · rw [decide_eq_false q, if_neg (show ¬ (0 < k ∧ a + k ≤ n.toNat) from fun z => q z.2)]; rfl
theorem read1 {n : UInt64} {x : List UInt8} (a k : Nat) : readR (rg n) [x] a k = if 0 < k ∧ a + k ≤ n.toNat then some (rdF x a k) else none := by
  unfold readR
  rw [Yp]
  by_cases q : 0 < k ∧ a + k ≤ n.toNat
  · rw [if_pos q, if_pos q]; simp [rg, rdF]
  · rw [if_neg q, if_neg q]
theorem write1 {n : UInt64} {x : List UInt8} (a : Nat) (xs : List UInt8) : writeR (rg n) [x] a xs = if 0 < xs.length ∧ a + xs.length ≤ n.toNat then some [wrF x a xs] else none := by
  unfold writeR
  rw [Yp]
  by_cases q : 0 < xs.length ∧ a + xs.length ≤ n.toNat
  · rw [if_pos q, if_pos q]; simp [rg, wrF]
  · rw [if_neg q, if_neg q]
theorem wrF_ok {n : UInt64} {x : List UInt8} {a : Nat} {xs : List UInt8} (h : Xx n x) (q : a + xs.length ≤ n.toNat) : Xx n (wrF x a xs) :=
  ⟨h.1, h.2.1, by rw [wrF_len (by rw [h.2.2]; exact q)]; exact h.2.2⟩
theorem has1 (n : UInt64) (s : Seg) : hasS (rg n) s = decide (0 < s.Len.toNat ∧ s.At.toNat + s.Len.toNat ≤ n.toNat) := by
  unfold hasS; rw [Yp]
  by_cases q : 0 < s.Len.toNat ∧ s.At.toNat + s.Len.toNat ≤ n.toNat
  · rw [if_pos q, decide_eq_true q]; rfl
  · rw [if_neg q, decide_eq_false q]; rfl
def inF (n : Nat) (ss : List Seg) : Prop := ∀ s ∈ ss, s.At.toNat + s.Len.toNat ≤ n
instance (n : Nat) (ss : List Seg) : Decidable (inF n ss) := by unfold inF; infer_instance
theorem XZ {n : Nat} {s : Seg} {r : List Seg} : inF n (s :: r) ↔ s.At.toNat + s.Len.toNat ≤ n ∧ inF n r := by simp [inF]
theorem inF_filter {n : Nat} {l : List Seg} {p : Seg → Bool} (h : inF n l) : inF n (l.filter p) := fun s hs => h s (List.mem_filter.1 hs).1
theorem all_has {n : UInt64} {ss : List Seg} (hp : posS ss) : ss.all (hasS (rg n)) = true ↔ inF n.toNat ss := by
  rw [List.all_eq_true]
  constructor
  · intro h s hs
    have := h s hs
    rw [has1, decide_eq_true_eq] at this; exact this.2
  · intro h s hs
    rw [has1, decide_eq_true_eq]; exact ⟨hp s hs, h s hs⟩
theorem inE1 (n : UInt64) (ss : List Seg) : inE (rg n) ss = if errS ss = 0 then (if inF n.toNat ss then 0 else 5) else errS ss := by
  unfold inE
  by_cases h : errS ss = 0
  · rw [if_pos h, if_pos h]
    have hp := okS_pos (errS_zero.1 h).2.1
    by_cases q : inF n.toNat ss
    · rw [if_pos q, (all_has hp).2 q]; rfl
    · rw [if_neg q]
      cases e : ss.all (hasS (rg n)) with
      | true => exact absurd ((all_has hp).1 e) q
      | false => rfl
  · rw [if_neg h, if_neg h]
theorem inE1_zero {n : UInt64} {ss : List Seg} : inE (rg n) ss = 0 ↔ XE ss ∧ inF n.toNat ss := by
  rw [inE1]
  by_cases h : errS ss = 0
  · rw [if_pos h]
    by_cases q : inF n.toNat ss
    · rw [if_pos q]; exact ⟨fun _ => ⟨errS_zero.1 h, q⟩, fun _ => rfl⟩
    · rw [if_neg q]; exact ⟨fun z => (by cases z), fun z => absurd z.2 q⟩
  · rw [if_neg h]; exact ⟨fun z => absurd z h, fun z => absurd (errS_good z.1) h⟩
def gatF (x : List UInt8) (ss : List Seg) : List UInt8 := (ss.map fun s => rdF x s.At.toNat s.Len.toNat).flatten
theorem XO (x : List UInt8) (s : Seg) (r : List Seg) : gatF x (s :: r) = rdF x s.At.toNat s.Len.toNat ++ gatF x r := by simp [gatF]
theorem gatF_nil (x : List UInt8) : gatF x [] = [] := rfl
theorem gat1 {n : UInt64} {x : List UInt8} : ∀ {ss : List Seg}, posS ss → inF n.toNat ss → gatS (rg n) [x] ss = gatF x ss
  | [], _, _ => rfl
  | s :: r, hp, hi => by
    have h1 := hp s (by simp)
    have h2 := XZ.1 hi
    rw [gat_cons, XO, gat1 (fun t ht => hp t (by simp [ht])) h2.2]
    unfold rdSeg
    rw [read1, if_pos ⟨h1, h2.1⟩]; rfl
theorem rdF_len {x : List UInt8} {a n : Nat} (h : a + n ≤ x.length) : (rdF x a n).length = n := by
  simp only [rdF, List.length_take, List.length_drop]; omega
def scatF (x : List UInt8) : List Seg → List UInt8 → List UInt8
  | [], _ => x
  | s :: r, xs => scatF (wrF x s.At.toNat (xs.take s.Len.toNat)) r (xs.drop s.Len.toNat)
theorem wr1 {n : UInt64} {x : List UInt8} {a : Nat} {xs : List UInt8} (h : a + xs.length ≤ n.toNat) : wrR (rg n) [x] a xs = [wrF x a xs] := by
  unfold wrR
  rw [write1]
  by_cases q : 0 < xs.length
  · rw [if_pos ⟨q, h⟩]; rfl
  · have : xs = [] := List.eq_nil_of_length_eq_zero (by omega)
    rw [if_neg (fun z => q z.1), this, wrF_nil]; rfl
theorem scat1 {n : UInt64} : ∀ {ss : List Seg} {x xs : List UInt8}, inF n.toNat ss → scatS (rg n) [x] ss xs = [scatF x ss xs]
  | [], _, _, _ => rfl
  | s :: r, x, xs, hi => by
    have h2 := XZ.1 hi
    unfold scatS scatF
    rw [wr1 (by rw [List.length_take]; omega)]
    exact scat1 h2.2
/-! parts of what is gathered -/
theorem rdF_take {x : List UInt8} {a m n : Nat} (h : m ≤ n) : rdF x a m = (rdF x a n).take m := by
  simp only [rdF, List.take_take]; rw [Nat.min_eq_left h]
theorem gat_take {x : List UInt8} : ∀ {ss : List Seg} {k : Nat}, inF x.length ss → gatF x (takeS k ss) = (gatF x ss).take k
  | [], k, _ => by simp [takeS, gatF]
  | s :: r, k, h => by
    have h2 := XZ.1 h
    have hl := rdF_len h2.1
    unfold takeS
    by_cases h0 : k = 0
    · rw [if_pos h0, h0]; rfl
    · rw [if_neg h0]
      by_cases h1 : k < s.Len.toNat
      · rw [if_pos h1, XO, XO, gatF_nil, List.append_nil, hd_len h1, rdF_take (Nat.le_of_lt h1), List.take_append_of_le_length (by rw [hl]; omega)]; rfl
      · rw [if_neg h1, XO, XO, gat_take h2.2, List.take_append, hl, List.take_of_length_le (l := rdF x s.At.toNat s.Len.toNat) (by rw [hl]; omega)]
theorem inF_take {n : Nat} : ∀ {ss : List Seg} {k : Nat}, inF n ss → inF n (takeS k ss)
  | [], k, h => by simpa [takeS] using h
  | s :: r, k, h => by
    have h2 := XZ.1 h
    unfold takeS
    by_cases h0 : k = 0
    · rw [if_pos h0]; intro t ht; cases ht
    · rw [if_neg h0]
      by_cases h1 : k < s.Len.toNat
      · rw [if_pos h1]; refine XZ.2 ⟨?_, fun t ht => by cases ht⟩
        rw [hd_len h1]; show s.At.toNat + k ≤ n; omega
      · rw [if_neg h1]; exact XZ.2 ⟨h2.1, inF_take h2.2⟩
/-! the kinds of segments -/
def allW (w : Bool) (l : List Seg) : Prop := ∀ s ∈ l, s.Write = w
theorem allW_filter (w : Bool) (l : List Seg) : allW w (l.filter (fun s => s.Write == w)) := fun s hs => by simpa using (List.mem_filter.1 hs).2
theorem filter_allW {w : Bool} {l : List Seg} (h : allW w l) : l.filter (fun s => s.Write == w) = l := List.filter_eq_self.2 fun s hs => by simpa using h s hs
theorem filter_allN {w : Bool} {l : List Seg} (h : allW (!w) l) : l.filter (fun s => s.Write == w) = [] := List.filter_eq_nil_iff.2 fun s hs => by rw [h s hs]; cases w <;> decide
theorem allW_take {w : Bool} : ∀ {l : List Seg} {k : Nat}, allW w l → allW w (takeS k l)
  | [], k, h => by simpa [takeS] using h
  | s :: r, k, h => by
    unfold takeS
    by_cases h0 : k = 0
    · rw [if_pos h0]; intro t ht; cases ht
    · rw [if_neg h0]
      by_cases h1 : k < s.Len.toNat
      · rw [if_pos h1]; intro t ht; rw [List.mem_singleton] at ht; subst ht; exact h s (by simp)
      · rw [if_neg h1]; intro t ht
        rcases List.mem_cons.1 ht with e | e
        · subst e; exact h _ (by simp)
        · exact allW_take (fun t ht => h t (by simp [ht])) t e
theorem sum_rd : ∀ l : List Seg, sumS (l.filter (fun s => s.Write == false)) = rdS l
  | [] => rfl
  | s :: r => by
    have := sum_rd r
    rw [List.filter_cons]
    cases h : s.Write with
    | true => simp only [rdS, h, if_true]; rw [if_neg (by decide)]; omega
    | false => rw [if_pos (by decide)]; simp only [sumS, rdS, h]; rw [if_neg (by decide)]; omega
theorem ok_allW {w : Bool} : ∀ {p : Bool} {l : List Seg}, okS p l = true → allW w l → (∀ q : Bool, (q = true → w = true) → okS q l = true)
  | _, [], _, _, _, _ => rfl
  | p, s :: r, h, ha, q, hq => by
    simp only [okS, Bool.and_eq_true, decide_eq_true_eq] at h ⊢
    exact ⟨⟨h.1.1, h.1.2.1, fun z => by rw [ha s (by simp)]; exact hq z⟩, h.2⟩
theorem ok_filter {w : Bool} : ∀ {p : Bool} {l : List Seg}, okS p l = true → okS false (l.filter (fun s => s.Write == w)) = true
  | _, [], _ => rfl
  | p, s :: r, h => by
    simp only [okS, Bool.and_eq_true, decide_eq_true_eq] at h
    have ih := ok_filter (w := w) h.2
    rw [List.filter_cons]
    split
    next q =>
      have hw : s.Write = w := by simpa using q
      simp only [okS, Bool.and_eq_true, decide_eq_true_eq]
      refine ⟨⟨h.1.1, h.1.2.1, fun z => by cases z⟩, ?_⟩
      exact ok_allW ih (allW_filter w r) _ (fun z => by rw [← hw]; exact z)
    next q => exact ih
theorem good_filter {w : Bool} {l : List Seg} (h : XE l) : XE (l.filter (fun s => s.Write == w)) :=
  ⟨Nat.le_trans (List.length_filter_le _ _) h.1, ok_filter h.2.1, Nat.lt_of_le_of_lt (sum_filter _ l) h.2.2⟩
theorem zer1 (n : UInt64) : zer (rg n) = [List.replicate n.toNat 0] := rfl
def z1 (n : UInt64) : List UInt8 := List.replicate n.toNat 0
theorem z1_ok {n : UInt64} (h0 : 0 < n.toNat) (h1 : n.toNat ≤ 1048576) : Xx n (z1 n) := ⟨h0, h1, by simp [z1]⟩
theorem new1_eq {n : UInt64} (h0 : 0 < n.toNat) (h1 : n.toNat ≤ 1048576) : gmem_New (rg n) = some (some ⟨rg n, [z1 n]⟩, 0) := by
  rw [new_ok (rg_good h0 h1), zer1]; rfl
theorem gather1 {n : UInt64} {x : List UInt8} (h : Xx n x) (l : List Seg) (hg : XE l) (hi : inF n.toNat l) : seg_Gather ⟨rg n, [x]⟩ l = some (gatF x (l.filter (fun s => s.Write == false)), 0) := by
  rw [gather_eq ⟨rg n, [x]⟩ (flat_mem h) l]
  dsimp only
  rw [if_pos (inE1_zero.2 ⟨hg, hi⟩), gat1 (fun s hs => okS_pos hg.2.1 s (List.mem_filter.1 hs).1) (inF_filter hi)]
theorem write1_eq {n : UInt64} {x : List UInt8} (h : Xx n x) (a : UInt64) (xs : List UInt8) (q : a.toNat + xs.length ≤ n.toNat) : Xk ⟨rg n, [x]⟩ a xs = some ((0 : Int), [wrF x a.toNat xs]) := by
  have hn := h.2.1
  rw [write_eqM ⟨rg n, [x]⟩ (flat_mem h) a xs (by omega)]
  by_cases e : xs = []
  · rw [if_pos e, e, wrF_nil]
  · have : 0 < xs.length := List.length_pos_iff.2 e
    rw [if_neg e]
    dsimp only
    rw [write1, if_pos ⟨this, q⟩]
end Go.Proofs.Ytgcbcnpbnonnjaa
