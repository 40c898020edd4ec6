/- Memories as maps from addresses to bytes. No condition. -/
import Derived.Test.YtecmlfmbmligeaaPuWord
namespace Go.Proofs.Ytecmlfmbmligeaa
theorem mgp {κ ν : Type} [BEq κ] [LawfulBEq κ] [DecidableEq κ] (z : ν) (k q : κ) (v : ν) : ∀ m : List (κ × ν), mget z q (mput k v m) = if q = k then v else mget z q m
  | [] => by
    simp only [mput, mget]
    by_cases h : q = k
    · rw [if_pos h, h, beqI]; rfl
    · rw [if_neg h, beq_false_of_ne h]; rfl
  | p :: r => by
    have ih := mgp z k q v r
    simp only [mput]
    by_cases h1 : k = p.1
    · rw [show (k == p.1) = true by rw [h1, beqI]]
      simp only [cond_true, mget]
      by_cases h : q = k
      · rw [if_pos h, h, beqI]; rfl
      · rw [if_neg h, beq_false_of_ne h, beq_false_of_ne (fun e => h (e.trans h1.symm))]; rfl
    · rw [beq_false_of_ne h1]
      simp only [cond_false, mget]
      by_cases h2 : q = p.1
      · rw [show (q == p.1) = true by rw [h2, beqI], if_neg (fun e => h1 (e.symm.trans h2))]
        rfl
      · rw [beq_false_of_ne h2]; simp only [cond_false]; exact ih
/-- bytes put from an address on -/
def putN (a : UInt64) (xs : List UInt8) : Nat → List (UInt64 × UInt8) → List (UInt64 × UInt8)
  | 0, m => m
  | k + 1, m => mput (a + UInt64.ofNat k) (xs.getD k 0) (putN a xs k m)
theorem put_out (a : UInt64) (xs : List UInt8) (q : UInt64) (m : List (UInt64 × UInt8)) : ∀ n : Nat, (∀ j, j < n → q ≠ a + UInt64.ofNat j) → mget 0 q (putN a xs n m) = mget 0 q m
  | 0, _ => rfl
  | n + 1, h => by
    unfold putN
    rw [mgp, if_neg (h n (Nat.lt_succ_self n))]
    exact put_out a xs q m n (fun j hj => h j (Nat.lt_succ_of_lt hj))
theorem put_in (a : UInt64) (xs : List UInt8) (m : List (UInt64 × UInt8)) : ∀ n : Nat, a.toNat + n ≤ 18446744073709551616 → ∀ j, j < n → mget 0 (a + UInt64.ofNat j) (putN a xs n m) = xs.getD j 0
  | 0, _, j, h => absurd h (Nat.not_lt_zero j)
  | n + 1, hn, j, h => by
    unfold putN
    rw [mgp]
    by_cases e : j = n
    · rw [if_pos (by rw [e]), e]
    · rw [if_neg (fun q => e (by
        have := congrArg UInt64.toNat q
        simp only [UInt64.toNat_add, UInt64.toNat_ofNat'] at this
        omega))]
      exact put_in a xs m n (by omega) j (by omega)
/-- does a map hold what a memory holds? -/
def mapOk (l : List Region) (b : List (List UInt8)) (m : List (UInt64 × UInt8)) : Prop := ∀ (i k : Nat) (r : Region) (x : List UInt8), l[i]? = some r → b[i]? = some x → k < r.Len.toNat → x[k]? = some (mget 0 (r.At + UInt64.ofNat k) m)
theorem map_zer (l : List Region) : mapOk l (zer l) [] := by
  intro i k r x h1 h2 h3
  unfold zer at h2
  rw [List.getElem?_map, h1] at h2
  cases h2
  rw [List.getElem?_replicate, if_pos h3]; rfl
theorem map_read {l : List Region} {b : List (List UInt8)} {m : List (UInt64 × UInt8)} {a : UInt64} {n : Nat} {xs : List UInt8} (hm : memOk l b) (ho : mapOk l b m) (h : readR l b a.toNat n = some xs) :
    xs = (List.range n).map fun k => mget 0 (a + UInt64.ofNat k) m := by
  unfold readR at h
  cases hf : findR l a.toNat n with
  | none => rw [hf] at h; cases h
  | some i =>
    obtain ⟨hi, q0, q1, q2⟩ := findR_in hf
    have hb : i < b.length := by rw [hm.2.1]; exact hi
    have hr := hm.2.2 i _ _ (getq hi) (getq hb)
    rw [hf] at h
    simp only [getq hi, getq hb, Option.some.injEq] at h
    subst h
    have ha := a.toNat_lt
    apply List.ext_getElem?
    intro k
    rw [List.getElem?_map]
    by_cases hk : k < n
    · rw [List.getElem?_take, if_pos hk, List.getElem?_drop, List.getElem?_range hk, ho i (a.toNat - l[i].At.toNat + k) _ _ (getq hi) (getq hb) (by omega)]
      refine congrArg some ?_
      refine congrArg (fun q => mget 0 q m) ?_
      apply UInt64.toNat_inj.1
      simp only [UInt64.toNat_add, UInt64.toNat_ofNat']; omega
    · rw [List.getElem?_take, if_neg hk, List.getElem?_eq_none (by simp; omega)]; rfl
theorem map_write {l : List Region} {b b' : List (List UInt8)} {m : List (UInt64 × UInt8)} {a : UInt64} {xs : List UInt8} (hm : memOk l b) (ho : mapOk l b m) (h : writeR l b a.toNat xs = some b') : mapOk l b' (putN a xs xs.length m) := by
  unfold writeR at h
  cases hf : findR l a.toNat xs.length with
  | none => rw [hf] at h; cases h
  | some i =>
    obtain ⟨hi, q0, q1, q2⟩ := findR_in hf
    have hb : i < b.length := by rw [hm.2.1]; exact hi
    have hr := hm.2.2 i _ _ (getq hi) (getq hb)
    have oi := okA_get hm.1.2.1 hi
    rw [hf] at h
    simp only [getq hi, getq hb, Option.some.injEq] at h
    subst h
    have ha := a.toNat_lt
    intro j k r x h1 h2 h3
    by_cases e : j = i
    · subst e
      rw [List.getElem?_set_self hb] at h2
      rw [getq hi] at h1; cases h1; cases h2
      by_cases c : a.toNat ≤ l[j].At.toNat + k ∧ l[j].At.toNat + k < a.toNat + xs.length
      · have ek : l[j].At + UInt64.ofNat k = a + UInt64.ofNat (l[j].At.toNat + k - a.toNat) := by
          apply UInt64.toNat_inj.1
          simp only [UInt64.toNat_add, UInt64.toNat_ofNat']; omega
        rw [ek, put_in a xs m xs.length (by omega) _ (by omega), List.append_assoc, List.getElem?_append_right (by simp only [List.length_take]; omega), List.length_take, List.getElem?_append_left (by omega), List.getD_eq_getElem?_getD]
        have e2 : k - min (a.toNat - l[j].At.toNat) b[j].length = l[j].At.toNat + k - a.toNat := by omega
        have e3 : l[j].At.toNat + k - a.toNat < xs.length := by omega
        rw [e2, getq e3]; rfl
      · have out : ∀ t, t < xs.length → l[j].At + UInt64.ofNat k ≠ a + UInt64.ofNat t := fun t ht q => by
          have := congrArg UInt64.toNat q
          simp only [UInt64.toNat_add, UInt64.toNat_ofNat'] at this
          omega
        rw [put_out a xs _ m _ out, ← ho j k _ _ (getq hi) (getq hb) h3]
        by_cases c2 : k < a.toNat - l[j].At.toNat
        · rw [List.append_assoc, List.getElem?_append_left (by simp only [List.length_take]; omega), List.getElem?_take, if_pos c2]
        · rw [List.getElem?_append_right (by simp only [List.length_append, List.length_take]; omega), List.getElem?_drop]
          refine congrArg (fun t => b[j][t]?) ?_
          simp only [List.length_append, List.length_take]; omega
    · rw [List.getElem?_set_ne (fun q => e q.symm)] at h2
      have hj : j < l.length := by
        rcases Nat.lt_or_ge j l.length with q | q
        · exact q
        · rw [List.getElem?_eq_none q] at h1; cases h1
      have oj := okA_get hm.1.2.1 hj
      rw [getq hj] at h1; cases h1
      have far : l[i].At.toNat + l[i].Len.toNat ≤ l[j].At.toNat ∨ l[j].At.toNat + l[j].Len.toNat ≤ l[i].At.toNat := by
        rcases Nat.lt_or_gt_of_ne e with q | q
        · exact .inr (okA_lt hm.1.2.1 q hi)
        · exact .inl (okA_lt hm.1.2.1 q hj)
      have out : ∀ t, t < xs.length → l[j].At + UInt64.ofNat k ≠ a + UInt64.ofNat t := fun t ht q => by
        have := congrArg UInt64.toNat q
        simp only [UInt64.toNat_add, UInt64.toNat_ofNat'] at this
        omega
      rw [put_out a xs _ m _ out]
      exact ho j k _ _ (getq hj) h2 h3
end Go.Proofs.Ytecmlfmbmligeaa
