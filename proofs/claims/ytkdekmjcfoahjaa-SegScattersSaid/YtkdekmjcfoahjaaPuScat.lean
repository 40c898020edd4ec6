/- Bytes set one by one, maps, and what is scattered. No condition. -/
import Derived.Test.YtkdekmjcfoahjaaPuFlat
namespace Go.Proofs.Ytkdekmjcfoahjaa
/-! maps -/
theorem mget_put {κ ν : Type} [BEq κ] [LawfulBEq κ] [DecidableEq κ] (z : ν) (k q : κ) (v : ν) : ∀ m : List (κ × ν), mget z q (mput k v m) = if q = k then v else mget z q m
  | [] => by
    simp only [mput, mget]
    by_cases h : q = k
    · rw [if_pos h, h, beqI]; rfl
    · rw [if_neg h, beq_false_of_ne h]; rfl
  | p :: r => by
    have ih := mget_put z k q v r
    simp only [mput]
    by_cases h1 : k = p.1
    · rw [show (k == p.1) = true by rw [h1, beqI]]
      simp only [cond_true, mget]
      by_cases h : q = k
      · rw [if_pos h, h, beqI]; rfl
      · rw [if_neg h, beq_false_of_ne h, beq_false_of_ne (fun e => h (e.trans h1.symm))]; rfl
    · rw [beq_false_of_ne h1]
      simp only [cond_false, mget]
      by_cases h2 : q = p.1
      · rw [show (q == p.1) = true by rw [h2, beqI], if_neg (fun e => h1 (e.symm.trans h2))]
        rfl
      · rw [beq_false_of_ne h2]; simp only [cond_false]; exact ih
/-! bytes set one by one -/
def setAll (x : List UInt8) : List UInt64 → List UInt8 → List UInt8
  | [], _ => x
  | _ :: _, [] => x
  | p :: ps, b :: bs => setAll (x.set p.toNat b) ps bs
theorem setAll_e (x : List UInt8) (bs : List UInt8) : setAll x [] bs = x := by cases bs <;> rfl
theorem setAll_nil (x : List UInt8) (ps : List UInt64) : setAll x ps [] = x := by cases ps <;> rfl
theorem setAll_len : ∀ (ps : List UInt64) (bs : List UInt8) (x : List UInt8), (setAll x ps bs).length = x.length
  | [], _, _ => by rw [setAll_e]
  | _ :: _, [], _ => by rw [setAll_nil]
  | p :: ps, b :: bs, x => by unfold setAll; rw [setAll_len ps bs]; simp
theorem setAll_split : ∀ (ps qs : List UInt64) (bs : List UInt8) (x : List UInt8), setAll x (ps ++ qs) bs = setAll (setAll x ps (bs.take ps.length)) qs (bs.drop ps.length)
  | [], qs, bs, x => by simp [setAll_e]
  | p :: ps, qs, [], x => by simp [setAll_nil]
  | p :: ps, qs, b :: bs, x => by
    simp only [List.cons_append, setAll, List.length_cons, List.take_succ_cons, List.drop_succ_cons]
    exact setAll_split ps qs bs _
theorem setAll_take : ∀ (ps : List UInt64) (bs : List UInt8) (x : List UInt8), setAll x (ps.take bs.length) bs = setAll x ps bs
  | [], bs, x => by simp
  | p :: ps, [], x => by simp [setAll_nil, setAll_e]
  | p :: ps, b :: bs, x => by
    simp only [List.length_cons, List.take_succ_cons, setAll]
    exact setAll_take ps bs _
theorem setAll_other : ∀ (ps : List UInt64) (bs : List UInt8) (x : List UInt8) (q : Nat), (∀ p ∈ ps, p.toNat ≠ q) → (setAll x ps bs)[q]? = x[q]?
  | [], _, _, _, _ => by rw [setAll_e]
  | _ :: _, [], _, _, _ => by rw [setAll_nil]
  | p :: ps, b :: bs, x, q, h => by
    unfold setAll
    rw [setAll_other ps bs _ q (fun r hr => h r (by simp [hr])), List.getElem?_set_ne (h p (by simp))]
theorem setAll_get : ∀ (ps : List UInt64) (bs : List UInt8) (x : List UInt8) (i : Nat) (p : UInt64) (b : UInt8), ps.Nodup → (∀ p ∈ ps, p.toNat < x.length) → ps[i]? = some p → bs[i]? = some b → (setAll x ps bs)[p.toNat]? = some b
  | [], _, _, i, p, b, _, _, h, _ => by simp at h
  | _ :: _, [], _, i, p, b, _, _, _, h => by simp at h
  | q :: ps, c :: bs, x, i, p, b, hn, hl, h1, h2 => by
    have hn2 := List.nodup_cons.1 hn
    unfold setAll
    cases i with
    | zero =>
      simp at h1 h2; subst h1; subst h2
      rw [setAll_other ps bs _ _ (fun r hr e => hn2.1 (by rw [← UInt64.toNat_inj.1 e]; exact hr)), List.getElem?_set_self (hl q (by simp))]
    | succ i =>
      exact setAll_get ps bs _ i p b hn2.2 (fun r hr => by rw [List.length_set]; exact hl r (by simp [hr])) (by simpa using h1) (by simpa using h2)
/-! the places of a segment -/
def adr (s : Seg) (n : Nat) : List UInt64 := (List.range n).map fun k => s.At + UInt64.ofNat k
theorem adr_succ (s : Seg) (n : Nat) : adr s (n + 1) = adr s n ++ [s.At + UInt64.ofNat n] := by
  simp [adr, List.range_succ]
theorem adr_len (s : Seg) (n : Nat) : (adr s n).length = n := by simp [adr]
theorem adr_take (s : Seg) {m n : Nat} (h : m ≤ n) : (adr s n).take m = adr s m := by
  simp only [adr, ← List.map_take, List.take_range, Nat.min_eq_left h]
theorem adr_get {s : Seg} {n k : Nat} (h : k < n) : (adr s n)[k]? = some (s.At + UInt64.ofNat k) := by
  simp [adr, h]
theorem at_nat {s : Seg} {k m : Nat} (h : s.At.toNat + m ≤ 1048576) (hk : k < m) : (s.At + UInt64.ofNat k).toNat = s.At.toNat + k := by
  rw [UInt64.toNat_add, UInt64.toNat_ofNat']; omega
theorem adr_lt {s : Seg} {n N : Nat} (h : s.At.toNat + n ≤ N) (hN : N ≤ 1048576) : ∀ p ∈ adr s n, p.toNat < N := fun p hp => by
  simp only [adr, List.mem_map, List.mem_range] at hp
  obtain ⟨k, hk, rfl⟩ := hp
  rw [at_nat (m := n) (by omega) hk]; omega
theorem setAll_snoc : ∀ (ps : List UInt64) (bs : List UInt8) (x : List UInt8) (p : UInt64) (b : UInt8), ps.length = bs.length → setAll x (ps ++ [p]) (bs ++ [b]) = (setAll x ps bs).set p.toNat b
  | [], [], x, p, b, _ => rfl
  | [], _ :: _, _, _, _, h => by simp at h
  | _ :: _, [], _, _, _, h => by simp at h
  | q :: ps, c :: bs, x, p, b, h => by
    simp only [List.cons_append, setAll]
    exact setAll_snoc ps bs _ p b (by simpa using h)
theorem wrF_set {s : Seg} {x : List UInt8} (hx : x.length ≤ 1048576) : ∀ {n : Nat} {xs : List UInt8}, xs.length = n → s.At.toNat + n ≤ x.length → wrF x s.At.toNat xs = setAll x (adr s n) xs
  | 0, xs, h, _ => by
    have : xs = [] := List.eq_nil_of_length_eq_zero h
    rw [this, wrF_nil, setAll_nil]
  | n + 1, xs, h, hl => by
    rcases List.eq_nil_or_concat xs with e | ⟨ys, c, e⟩
    · rw [e] at h; simp at h
    · rw [List.concat_eq_append] at e
      subst e
      have hy : ys.length = n := by simpa using h
      rw [wrF_snoc (by omega), wrF_set hx hy (by omega), adr_succ, setAll_snoc _ _ _ _ _ (by rw [adr_len, hy]), at_nat (m := n + 1) (by omega) (by omega), hy]
def pl1 (l : List Seg) : List UInt64 := (l.map fun s => adr s s.Len.toNat).flatten
theorem pl1_cons (s : Seg) (r : List Seg) : pl1 (s :: r) = adr s s.Len.toNat ++ pl1 r := by simp [pl1]
theorem pl1_len : ∀ l : List Seg, (pl1 l).length = sumS l
  | [] => rfl
  | s :: r => by rw [pl1_cons, List.length_append, adr_len, pl1_len r]; rfl
theorem pl1_lt {N : Nat} (hN : N ≤ 1048576) : ∀ {l : List Seg}, inF N l → ∀ p ∈ pl1 l, p.toNat < N
  | [], _, p, hp => by simp [pl1] at hp
  | s :: r, h, p, hp => by
    have h2 := inF_cons.1 h
    rw [pl1_cons, List.mem_append] at hp
    rcases hp with q | q
    · exact adr_lt h2.1 hN p q
    · exact pl1_lt hN h2.2 p q
theorem scat_set : ∀ {l : List Seg} {x xs : List UInt8}, x.length ≤ 1048576 → inF x.length l → scatF x l xs = setAll x (pl1 l) xs
  | [], x, xs, _, _ => by cases xs <;> rfl
  | s :: r, x, xs, hx, h => by
    have h2 := inF_cons.1 h
    unfold scatF
    rw [pl1_cons, setAll_split, adr_len]
    have e : wrF x s.At.toNat (xs.take s.Len.toNat) = setAll x (adr s s.Len.toNat) (xs.take s.Len.toNat) := by
      rw [wrF_set hx rfl (by rw [List.length_take]; omega), ← setAll_take (adr s s.Len.toNat), adr_take _ (by rw [List.length_take]; omega)]
    rw [e, scat_set (by rw [setAll_len]; exact hx) (by rw [setAll_len]; exact h2.2)]
theorem rd_adr {x : List UInt8} {s : Seg} (hx : x.length ≤ 1048576) (h : s.At.toNat + s.Len.toNat ≤ x.length) : rdF x s.At.toNat s.Len.toNat = (adr s s.Len.toNat).map fun p => x.getD p.toNat 0 := by
  apply List.ext_getElem?
  intro k
  unfold rdF
  rw [List.getElem?_take, List.getElem?_map]
  by_cases hk : k < s.Len.toNat
  · rw [if_pos hk, List.getElem?_drop, adr_get hk, Option.map_some, at_nat (m := s.Len.toNat) (by omega) hk, List.getD_eq_getElem?_getD]
    rw [getq (by omega : s.At.toNat + k < x.length)]; rfl
  · rw [if_neg hk, List.getElem?_eq_none (by rw [adr_len]; omega)]; rfl
theorem gat_adr {x : List UInt8} (hx : x.length ≤ 1048576) : ∀ {l : List Seg}, inF x.length l → gatF x l = (pl1 l).map fun p => x.getD p.toNat 0
  | [], _ => rfl
  | s :: r, h => by
    have h2 := inF_cons.1 h
    rw [gatF_cons, pl1_cons, List.map_append, rd_adr hx h2.1, gat_adr hx h2.2]
/-- what is scattered into places that are all different is read there -/
theorem gat_scat {x xs : List UInt8} {l : List Seg} (hx : x.length ≤ 1048576) (h : inF x.length l) (hn : (pl1 l).Nodup) : (gatF (scatF x l xs) l).take (min xs.length (sumS l)) = xs.take (min xs.length (sumS l)) := by
  have hl := pl1_len l
  rw [scat_set hx h, gat_adr (by rw [setAll_len]; exact hx) (by rw [setAll_len]; exact h)]
  apply List.ext_getElem?
  intro i
  rw [List.getElem?_take, List.getElem?_take]
  by_cases hi : i < min xs.length (sumS l)
  · rw [if_pos hi, if_pos hi, List.getElem?_map]
    have i1 : i < (pl1 l).length := by omega
    have i2 : i < xs.length := by omega
    rw [getq i1, getq i2, Option.map_some, List.getD_eq_getElem?_getD, setAll_get (pl1 l) xs x i _ xs[i] hn (pl1_lt hx h) (getq i1) (getq i2)]; rfl
  · rw [if_neg hi, if_neg hi]
end Go.Proofs.Ytkdekmjcfoahjaa
