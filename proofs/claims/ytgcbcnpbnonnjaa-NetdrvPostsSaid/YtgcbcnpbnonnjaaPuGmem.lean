/- Memories of regions in plain words: when regions may be; where bytes lie. No condition. -/
import Derived.Test.YtgcbcnpbnonnjaaPuBase
namespace Go.Proofs.Ytgcbcnpbnonnjaa
/-- may regions be, from pe on? -/
def okA : Nat → List Region → Bool
  | _, [] => true
  | pe, r :: l => decide (0 < r.Len.toNat ∧ r.At.toNat + r.Len.toNat ≤ 18446744073709551616 ∧ pe ≤ r.At.toNat) && okA (r.At.toNat + r.Len.toNat) l
def sumM : List Region → Nat
  | [] => 0
  | r :: l => r.Len.toNat + sumM l
def goodM (l : List Region) : Prop := l.length ≤ 16 ∧ okA 0 l = true ∧ sumM l ≤ 1048576
/-- where n bytes from a on lie: the region -/
def inR (a n : Nat) (r : Region) : Bool := decide (r.At.toNat ≤ a ∧ a + n ≤ r.At.toNat + r.Len.toNat)
def findR (l : List Region) (a n : Nat) : Option Nat := if n = 0 then none else l.findIdx? (inR a n)
/-- a memory as it is made and kept -/
def memOk (l : List Region) (b : List (List UInt8)) : Prop := goodM l ∧ b.length = l.length ∧ ∀ (i : Nat) (r : Region) (x : List UInt8), l[i]? = some r → b[i]? = some x → x.length = r.Len.toNat
theorem okA_get : ∀ {pe : Nat} {l : List Region}, okA pe l = true → ∀ {i : Nat} (h : i < l.length), pe ≤ l[i].At.toNat ∧ 0 < l[i].Len.toNat ∧ l[i].At.toNat + l[i].Len.toNat ≤ 18446744073709551616
  | pe, [], _, i, h => by simp at h
  | pe, r :: l, hk, 0, _ => by
    simp only [okA, Bool.and_eq_true, decide_eq_true_eq] at hk
    exact ⟨hk.1.2.2, hk.1.1, hk.1.2.1⟩
  | pe, r :: l, hk, i + 1, h => by
    simp only [okA, Bool.and_eq_true, decide_eq_true_eq] at hk
    have := okA_get hk.2 (i := i) (by simpa using h)
    simp only [List.getElem_cons_succ]
    exact ⟨by omega, this.2⟩
theorem okA_lt : ∀ {pe : Nat} {l : List Region}, okA pe l = true → ∀ {i j : Nat} (hij : i < j) (h : j < l.length), l[i].At.toNat + l[i].Len.toNat ≤ l[j].At.toNat
  | pe, [], _, i, j, _, h => by simp at h
  | pe, r :: l, hk, 0, j + 1, _, h => by
    simp only [okA, Bool.and_eq_true, decide_eq_true_eq] at hk
    exact (okA_get hk.2 (i := j) (by simpa using h)).1
  | pe, r :: l, hk, i + 1, j + 1, hij, h => by
    simp only [okA, Bool.and_eq_true, decide_eq_true_eq] at hk
    exact okA_lt hk.2 (i := i) (j := j) (by omega) (by simpa using h)
  | pe, r :: l, hk, 0, 0, hij, h => by omega
  | pe, r :: l, hk, i + 1, 0, hij, h => by omega
theorem mid_eq {i j : Nat} (hi : i ≤ j) (hj : j ≤ 16) : i64 (shr64 (u64 (wi ((i : Int) + (j : Int)))) ((1 : UInt64).toNat)) = (((i + j) / 2 : Nat) : Int) := by
  rw [wi_in (by omega) (by omega), show ((i : Int) + (j : Int)) = ((i + j : Nat) : Int) by omega, u64_of]
  have : ∀ n, n ≤ 32 → i64 (shr64 (UInt64.ofNat n) ((1 : UInt64).toNat)) = ((n / 2 : Nat) : Int) := by decide +kernel
  exact this _ (by omega)
theorem end_eq {r : Region} (h : 0 < r.Len.toNat ∧ r.At.toNat + r.Len.toNat ≤ 18446744073709551616) (a : UInt64) : ((r.Len - 1 + r.At) ≥ a) ↔ a.toNat < r.At.toNat + r.Len.toNat := by
  have e1 : (r.Len - 1).toNat = r.Len.toNat - 1 := sub64 (by simp only [UInt64.reduceToNat]; omega)
  have e2 : (r.Len - 1 + r.At).toNat = r.At.toNat + r.Len.toNat - 1 := by rw [UInt64.toNat_add, e1]; omega
  rw [GE.ge, le64, e2]; omega
theorem searchL (m : gmem_Mem) (hg : goodM m.l) (a : UInt64) : ∀ (nf i j : Nat), i ≤ j → j ≤ m.l.length → j - i < nf → (∀ k (h : k < m.l.length), k < i → m.l[k].At.toNat + m.l[k].Len.toNat ≤ a.toNat) → (∀ k (h : k < m.l.length), j ≤ k → a.toNat < m.l[k].At.toNat + m.l[k].Len.toNat) →
    ∃ s : Nat, sort_SearchFgmem_Mem_bytes_1L1 m a nf (i : Int) (j : Int) = some (s : Int) ∧ s ≤ m.l.length ∧ (∀ k (h : k < m.l.length), k < s → m.l[k].At.toNat + m.l[k].Len.toNat ≤ a.toNat) ∧ (∀ k (h : k < m.l.length), s ≤ k → a.toNat < m.l[k].At.toNat + m.l[k].Len.toNat)
  | 0, i, j, _, _, h, _, _ => by omega
  | nf + 1, i, j, hij, hj, hn, hlo, hhi => by
    have hl := hg.1
    unfold sort_SearchFgmem_Mem_bytes_1L1 sort_SearchFgmem_Mem_bytes_1L1B
    by_cases h : i < j
    · rw [bP (by omega), mid_eq hij (by omega)]
      have hm : (i + j) / 2 < m.l.length := by omega
      have gm := ix_nat (getq hm)
      have hb : gmem_Mem_bytes_1 (((i + j) / 2 : Nat) : Int) m a = some (decide ((m.l[(i + j) / 2].Len - 1 + m.l[(i + j) / 2].At) ≥ a)) := by
        unfold gmem_Mem_bytes_1; simp only [oS gm]
      have og := okA_get hg.2.1 hm
      rw [oS hb]
      by_cases hc : a.toNat < m.l[(i + j) / 2].At.toNat + m.l[(i + j) / 2].Len.toNat
      · rw [decide_eq_true ((end_eq og.2 a).2 hc), bFl (show (!true) = false from rfl)]
        refine searchL m hg a nf i ((i + j) / 2) (by omega) (by omega) (by omega) hlo (fun k hk hjk => ?_)
        by_cases e : k = (i + j) / 2
        · subst e; exact hc
        · have := okA_lt hg.2.1 (i := (i + j) / 2) (j := k) (by omega) hk
          omega
      · rw [decide_eq_false (fun q => hc ((end_eq og.2 a).1 q)), bT (show (!false) = true from rfl), wi_succ (by omega)]
        refine searchL m hg a nf ((i + j) / 2 + 1) j (by omega) (by omega) (by omega) (fun k hk hki => ?_) hhi
        by_cases e : k = (i + j) / 2
        · subst e; omega
        · have h1 := okA_lt hg.2.1 (i := k) (j := (i + j) / 2) (by omega) hm
          have h2 := okA_get hg.2.1 hm
          omega
    · have e : i = j := by omega
      subst e
      rw [bN (by omega)]
      exact ⟨i, rfl, hj, hlo, hhi⟩
theorem findR_some {l : List Region} {a n i : Nat} (hk : okA 0 l = true) (hn : 0 < n) (h : i < l.length) (h1 : l[i].At.toNat ≤ a) (h2 : a + n ≤ l[i].At.toNat + l[i].Len.toNat) : findR l a n = some i := by
  unfold findR
  rw [if_neg (by omega), List.findIdx?_eq_some_iff_getElem]
  refine ⟨h, by simp [inR, h1, h2], fun j hj => ?_⟩
  have := okA_lt hk hj h
  simp [inR]; omega
theorem findR_none {l : List Region} {a n : Nat} (h : ∀ (i : Nat) (hi : i < l.length), l[i].At.toNat ≤ a → ¬ a + n ≤ l[i].At.toNat + l[i].Len.toNat) : findR l a n = none := by
  unfold findR
  by_cases h0 : n = 0
  · rw [if_pos h0]
  · rw [if_neg h0, List.findIdx?_eq_none_iff]
    intro r hr
    obtain ⟨i, hi, rfl⟩ := List.mem_iff_getElem.1 hr
    have := h i hi
    simp only [inR, decide_eq_false_iff_not]; omega
/-- what 'bytes' hands out -/
def winR (l : List Region) (a n : Nat) : Option (Int × Int × Int) := match findR l a n with
  | none => none
  | some i => match l[i]? with | none => none | some r => some ((i : Int), ((a - r.At.toNat : Nat) : Int), ((a - r.At.toNat + n : Nat) : Int))
theorem bytes_eq (m : gmem_Mem) (hm : memOk m.l m.b) (a n : UInt64) : gmem_Mem_bytes m a n = some (winR m.l a.toNat n.toNat) := by
  obtain ⟨hg, hlen, hrow⟩ := hm
  have ha := a.toNat_lt; have hnb := n.toNat_lt
  unfold gmem_Mem_bytes winR
  by_cases h0 : n < 1
  · have : n.toNat = 0 := by have := lt64.1 h0; simp only [UInt64.reduceToNat] at this; omega
    rw [bP h0, show findR m.l a.toNat n.toNat = none by simp [findR, this]]
  · have hn : 0 < n.toNat := by
      rcases Nat.eq_zero_or_pos n.toNat with e | e
      · exact absurd (lt64.2 (by rw [e]; decide)) h0
      · exact e
    rw [bN h0]
    obtain ⟨s, hs, hsl, hlo, hhi⟩ := searchL m hg a fuel 0 m.l.length (by omega) (by omega) (by have := hg.1; unfold fuel; omega) (fun k hk h => by omega) (fun k hk h => by omega)
    have hsrch : sort_SearchFgmem_Mem_bytes_1 (len m.l) m a = some (s : Int) := by unfold sort_SearchFgmem_Mem_bytes_1; exact hs
    rw [oS hsrch]
    by_cases e : s = m.l.length
    · rw [bE (by simp only [len]; omega), findR_none (fun i hi h1 => by have := hlo i hi (by omega); omega)]
    · have hslt : s < m.l.length := by omega
      have og := okA_get hg.2.1 hslt
      have hh := hhi s hslt (Nat.le_refl _)
      have gi := ix_nat (getq hslt)
      rw [bF (by simp only [len]; omega)]
      simp only [oS gi]
      by_cases h2 : a < m.l[s].At
      · have h2' := lt64.1 h2
        rw [bP h2, findR_none (fun i hi h1 => by
          rcases Nat.lt_trichotomy i s with q | q | q
          · have := hlo i hi q; omega
          · subst q; omega
          · have := okA_lt hg.2.1 q hi; omega)]
      · have h2' : m.l[s].At.toNat ≤ a.toNat := Nat.le_of_not_lt fun q => h2 (lt64.2 q)
        have e1 : (a - m.l[s].At).toNat = a.toNat - m.l[s].At.toNat := sub64 h2'
        have e2 : (m.l[s].Len - (a - m.l[s].At)).toNat = m.l[s].Len.toNat - (a.toNat - m.l[s].At.toNat) := by rw [sub64 (by rw [e1]; omega), e1]
        rw [bN h2]
        by_cases h3 : n > m.l[s].Len - (a - m.l[s].At)
        · have h3' := lt64.1 h3
          rw [e2] at h3'
          rw [bP h3, findR_none (fun i hi h1 => by
            rcases Nat.lt_trichotomy i s with q | q | q
            · have := hlo i hi q; omega
            · subst q; omega
            · have := okA_lt hg.2.1 q hi; omega)]
        · have h3' : n.toNat ≤ m.l[s].Len.toNat - (a.toNat - m.l[s].At.toNat) := by
            rw [← e2]; exact Nat.le_of_not_lt fun q => h3 (lt64.2 q)
          have hb : s < m.b.length := by omega
          have hr := hrow s _ _ (getq hslt) (getq hb)
          have hL := m.l[s].Len.toNat_lt
          have e4 : (a - m.l[s].At + n).toNat = a.toNat - m.l[s].At.toNat + n.toNat := by rw [UInt64.toNat_add, e1]; omega
          rw [bN h3, oS (ix_nat (getq hb)), e1, e4, cP (by simp only [len]; omega), findR_some hg.2.1 hn hslt h2' (by omega)]
          simp only [getq hslt]
/-- what is found is there -/
theorem findR_in {l : List Region} {a n i : Nat} (h : findR l a n = some i) : ∃ (hi : i < l.length), 0 < n ∧ l[i].At.toNat ≤ a ∧ a + n ≤ l[i].At.toNat + l[i].Len.toNat := by
  unfold findR at h
  by_cases h0 : n = 0
  · rw [if_pos h0] at h; cases h
  · rw [if_neg h0, List.findIdx?_eq_some_iff_getElem] at h
    obtain ⟨hi, h1, _⟩ := h
    simp only [inR, decide_eq_true_eq] at h1
    exact ⟨hi, by omega, h1.1, h1.2⟩
theorem has_eq (m : gmem_Mem) (hm : memOk m.l m.b) (a n : UInt64) : gmem_Mem_Has m a n = some (findR m.l a.toNat n.toNat).isSome := by
  unfold gmem_Mem_Has
  rw [oS (show gmem_Mem_made m = some true from rfl), oS (bytes_eq m hm a n)]
  unfold winR
  cases hf : findR m.l a.toNat n.toNat with
  | none => rfl
  | some i =>
    obtain ⟨hi, h0, h1, h2⟩ := findR_in hf
    have hb : i < m.b.length := by rw [hm.2.1]; exact hi
    have hr := hm.2.2 i _ _ (getq hi) (getq hb)
    simp only [getq hi]
    rw [onS]
    dsimp only
    rw [oS (ix_nat (getq hb)), cP (by simp only [len]; omega), cP (by omega)]
    rfl
/-- the n bytes from a on -/
def readR (l : List Region) (b : List (List UInt8)) (a n : Nat) : Option (List UInt8) := match findR l a n with
  | none => none
  | some i => match l[i]?, b[i]? with | some r, some x => some ((x.drop (a - r.At.toNat)).take n) | _, _ => none
theorem read_eqM (m : gmem_Mem) (hm : memOk m.l m.b) (a : UInt64) (n : Int) (hn : n ≤ 140737488355328) : gmem_Mem_Read m a n = some (if n < 0 then (([] : List UInt8), (2 : Int)) else if n = 0 then ([], 0) else match readR m.l m.b a.toNat n.toNat with | none => ([], 5) | some x => (x, 0)) := by
  unfold gmem_Mem_Read
  rw [oS (show gmem_Mem_made m = some true from rfl)]
  by_cases h0 : n < 0
  · rw [bP h0, if_pos h0]
  · rw [bN h0, if_neg h0]
    by_cases h1 : n = 0
    · rw [bE h1, if_pos h1]
    · obtain ⟨k, rfl⟩ : ∃ k : Nat, n = (k : Int) := ⟨n.toNat, by omega⟩
      rw [bF h1, if_neg h1, u64_of, oS (bytes_eq m hm a _), UInt64.toNat_ofNat', Nat.mod_eq_of_lt (by omega), Int.toNat_natCast]
      unfold winR readR
      cases hf : findR m.l a.toNat k with
      | none => rfl
      | some i =>
        obtain ⟨hi, q0, q1, q2⟩ := findR_in hf
        have hb : i < m.b.length := by rw [hm.2.1]; exact hi
        have hr := hm.2.2 i _ _ (getq hi) (getq hb)
        simp only [getq hi, getq hb]
        have hs : sub m.b[i] ((a.toNat - m.l[i].At.toNat : Nat) : Int) ((a.toNat - m.l[i].At.toNat + k : Nat) : Int) = (m.b[i].drop (a.toNat - m.l[i].At.toNat)).take k := by
          rw [sub_nat]; congr 1; omega
        rw [onS]
        dsimp only
        rw [oS (ix_nat (getq hb)), cP (by simp only [len]; omega), cP (by omega), hs]
        have hc : ∀ x : List UInt8, x.length ≤ k → slices_Clone_bytebyte x = some x := fun x hx => by unfold slices_Clone_bytebyte; rw [cFits (by simp; omega)]
        rw [oS (hc _ (by simp; omega))]
/-- xs laid at a -/
def writeR (l : List Region) (b : List (List UInt8)) (a : Nat) (xs : List UInt8) : Option (List (List UInt8)) := match findR l a xs.length with
  | none => none
  | some i => match l[i]?, b[i]? with | some r, some x => some (b.set i (x.take (a - r.At.toNat) ++ xs ++ x.drop (a - r.At.toNat + xs.length))) | _, _ => none
def lenR (b : List (List UInt8)) : Nat := b.flatten.length
theorem grow_eq (n : Nat) (h : n ≤ 140737488355328) : slices_Grow_bytebyten0 (n : Int) = some [] := by
  unfold slices_Grow_bytebyten0 slices_Grow_bytebyten0J1
  have e : wi ((n : Int) - wi ((0 : Int) - 0)) = (n : Int) := by rw [show wi ((0 : Int) - 0) = 0 from rfl, wi_in (by omega) (by omega)]; omega
  rw [cN (by omega), e]
  by_cases q : (n : Int) > 0
  · rw [bP q, cP (by omega), cP (by simp only [len]; omega)]; rfl
  · rw [bN q]
theorem concat4 (b : List (List UInt8)) (hl : b.length ≤ 1000000) (hs : lenR b ≤ 100000000000000) : ∀ (nf i : Nat), i ≤ b.length → b.length - i < nf → slices_Concat_bytebyteL4 b nf (b.take i).flatten (i : Int) = some b.flatten
  | 0, i, _, h => by omega
  | nf + 1, i, hi, hn => by
    unfold slices_Concat_bytebyteL4 slices_Concat_bytebyteL4B
    by_cases h : i < b.length
    · have e : (b.take i).flatten ++ b[i] = (b.take (i + 1)).flatten := by
        rw [List.take_add_one, getq h, List.flatten_append]; simp
      have hle : ((b.take i).flatten ++ b[i]).length ≤ b.flatten.length := by
        rw [e]
        conv => rhs; rw [← List.take_append_drop (i + 1) b, List.flatten_append, List.length_append]
        omega
      rw [List.length_append] at hle
      unfold lenR at hs
      rw [bP (by simp only [len]; omega), oS (ix_nat (getq h)), cFits (by omega), wi_succ (by omega), e]
      exact concat4 b hl hs nf (i + 1) (by omega) (by omega)
    · rw [bN (by simp only [len]; omega), List.take_of_length_le (by omega)]
theorem concat1 (b : List (List UInt8)) (hl : b.length ≤ 1000000) (hs : lenR b ≤ 100000000000000) : ∀ (nf i : Nat), i ≤ b.length → b.length - i < nf → slices_Concat_bytebyteL1 b nf ((lenR (b.take i) : Nat) : Int) (i : Int) = some b.flatten
  | 0, i, _, h => by omega
  | nf + 1, i, hi, hn => by
    unfold slices_Concat_bytebyteL1 slices_Concat_bytebyteL1B
    have hle : lenR (b.take i) ≤ lenR b := by
      unfold lenR
      conv => rhs; rw [← List.take_append_drop i b, List.flatten_append, List.length_append]
      omega
    by_cases h : i < b.length
    · have e : lenR (b.take (i + 1)) = lenR (b.take i) + b[i].length := by
        unfold lenR
        rw [List.take_add_one, getq h, List.flatten_append, List.length_append]; simp
      have hle2 : lenR (b.take (i + 1)) ≤ lenR b := by
        unfold lenR
        conv => rhs; rw [← List.take_append_drop (i + 1) b, List.flatten_append, List.length_append]
        omega
      have ew : wi (((lenR (b.take i) : Nat) : Int) + len b[i]) = ((lenR (b.take (i + 1)) : Nat) : Int) := by
        rw [wi_in (by simp only [len]; omega) (by simp only [len]; omega), e]; simp only [len]; omega
      rw [bP (by simp only [len]; omega), oS (ix_nat (getq h)), ew, cN (by omega)]
      unfold slices_Concat_bytebyteJ3 slices_Concat_bytebyteJ2
      rw [ew, wi_succ (by omega)]
      exact concat1 b hl hs nf (i + 1) (by omega) (by omega)
    · rw [bN (by simp only [len]; omega), oS (grow_eq _ (by omega))]
      have := concat4 b hl hs fuel 0 (by omega) (by unfold fuel; omega)
      simpa using this
theorem concat_eq (b : List (List UInt8)) (hl : b.length ≤ 1000000) (hs : lenR b ≤ 100000000000000) : slices_Concat_bytebyte b = some b.flatten := by
  unfold slices_Concat_bytebyte
  have := concat1 b hl hs fuel 0 (by omega) (by unfold fuel; omega)
  simpa [lenR] using this
end Go.Proofs.Ytgcbcnpbnonnjaa
