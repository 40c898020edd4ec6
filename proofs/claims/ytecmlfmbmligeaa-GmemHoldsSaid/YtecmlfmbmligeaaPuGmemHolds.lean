/- The law GmemHolds in plain words. No condition. -/
import Derived.Test.YtecmlfmbmligeaaPuMap
namespace Go.Proofs.Ytecmlfmbmligeaa
theorem lives02 : law02zlives = some true := by kernel_rfl
/-- are the calls few, and short? -/
theorem smallL (l : List dumbwaiterlaw02_Act) : ∀ (nf i : Nat), i ≤ 81 → 81 - i < nf → (∀ (j : Nat) (d : dumbwaiterlaw02_Act), j < i → l[j]? = some d → d.B.length ≤ 2000) → ∃ b, law02zsmallL1 l nf (i : Int) = some b ∧ (b = true → l.length ≤ 80 ∧ ∀ d ∈ l, d.B.length ≤ 2000)
  | 0, i, _, h, _ => by omega
  | nf + 1, i, hi, hf, hb => by
    have fin : i = 81 ∨ ¬ i < l.length → ∃ b, some (decide (len l ≤ (80 : Int))) = some b ∧ (b = true → l.length ≤ 80 ∧ ∀ d ∈ l, d.B.length ≤ 2000) := fun hq => ⟨decide (len l ≤ (80 : Int)), rfl, fun q => by
      have hl : l.length ≤ 80 := by
        have q2 : ((l.length : Nat) : Int) ≤ 80 := of_decide_eq_true q
        omega
      refine ⟨hl, fun d hd => ?_⟩
      obtain ⟨j, hj, e⟩ := List.mem_iff_getElem.1 hd
      exact hb j d (by omega) (by rw [getq hj, e])⟩
    unfold law02zsmallL1 law02zsmallL1B
    by_cases h : i < l.length
    · rw [bP (by simp only [len]; omega)]
      by_cases h2 : i ≤ 80
      · rw [bP (by omega), oS (ix_nat (getq h))]
        by_cases h3 : len l[i].B > 2000
        · rw [bP h3]; exact ⟨false, rfl, fun q => by cases q⟩
        · rw [bN h3, wi_succ (by omega)]
          refine smallL l nf (i + 1) (by omega) (by omega) fun j d hj hd => ?_
          by_cases e : j = i
          · subst e; rw [getq h] at hd; cases hd; simp only [len] at h3; omega
          · exact hb j d (by omega) hd
      · rw [bN (by omega)]; exact fin (.inl (by omega))
    · rw [bN (by simp only [len]; omega)]; exact fin (.inr h)
theorem small_eq (l : List dumbwaiterlaw02_Act) : ∃ b, law02zsmall l = some b ∧ (b = true → l.length ≤ 80 ∧ ∀ d ∈ l, d.B.length ≤ 2000) := by
  unfold law02zsmall
  exact smallL l fuel 0 (by omega) (by unfold fuel; omega) (fun j d h => by omega)
theorem cnQ {c : Bool} {k : Option Bool} {r : Option Bool} (h : c = false) (hk : k = r) : chk (!c) k = r := by rw [h]; exact hk
theorem bneF {α : Type} [BEq α] [LawfulBEq α] {a b : α} (h : a = b) : (a != b) = false := by rw [h]; exact bne_self_eq_false b
/-- are all bytes in one region? -/
theorem inL (a n : UInt64) (l : List Region) (hg : goodM l) (hn : 0 < n.toNat) : ∀ (nf i : Nat), i ≤ l.length → l.length - i < nf → (∀ j (h : j < l.length), j < i → ¬ inR a.toNat n.toNat l[j] = true) → law02zGmemHolds_1L1 a n l nf (i : Int) = some (findR l a.toNat n.toNat).isSome
  | 0, i, _, h, _ => absurd h (Nat.not_lt_zero _)
  | nf + 1, i, hi, hf, hb => by
    have hl := hg.1
    have ha := a.toNat_lt
    have hn2 := n.toNat_lt
    unfold law02zGmemHolds_1L1 law02zGmemHolds_1L1B
    by_cases h : i < l.length
    · have og := okA_get hg.2.1 h
      have gi := ix_nat (getq h)
      have one : (1 : UInt64).toNat = 1 := rfl
      have n1 : (n - 1).toNat = n.toNat - 1 := by rw [sub64 (by rw [one]; omega), one]
      have l1 : (l[i].Len - 1).toNat = l[i].Len.toNat - 1 := by rw [sub64 (by rw [one]; omega), one]
      have s1 : (a + (n - 1)).toNat = (a.toNat + (n.toNat - 1)) % 18446744073709551616 := by rw [UInt64.toNat_add, n1]
      have s2 : (l[i].At + (l[i].Len - 1)).toNat = l[i].At.toNat + (l[i].Len.toNat - 1) := by rw [UInt64.toNat_add, l1]; omega
      have next : ¬ inR a.toNat n.toNat l[i] = true → law02zGmemHolds_1L1 a n l nf (wi ((i : Int) + 1)) = some (findR l a.toNat n.toNat).isSome := fun q => by
        rw [wi_succ (by omega)]
        refine inL a n l hg hn nf (i + 1) (by omega) (by omega) fun j hj hji => ?_
        by_cases e : j = i
        · subst e; exact q
        · exact hb j hj (by omega)
      rw [bP (by simp only [len]; omega), bP (lt64.2 (by simpa using hn)), oS gi]
      by_cases c1 : a ≥ l[i].At
      · have c1' := le64.1 c1
        rw [bP c1]
        by_cases c2 : (a + (n - 1)) ≥ a
        · have c2' := le64.1 c2
          rw [s1] at c2'
          rw [bP c2, oS gi, oS gi]
          by_cases c3 : (a + (n - 1)) ≤ (l[i].At + (l[i].Len - 1))
          · have c3' := le64.1 c3
            rw [s1, s2] at c3'
            rw [bP c3, findR_some hg.2.1 hn h c1' (by omega)]; rfl
          · have c3' : ¬ (a + (n - 1)).toNat ≤ (l[i].At + (l[i].Len - 1)).toNat := fun q => c3 (le64.2 q)
            rw [s1, s2] at c3'
            rw [bN c3]
            exact next (fun q => by unfold inR at q; have := of_decide_eq_true q; omega)
        · have c2' : ¬ a.toNat ≤ (a + (n - 1)).toNat := fun q => c2 (le64.2 q)
          rw [s1] at c2'
          rw [bN c2]
          exact next (fun q => by unfold inR at q; have := of_decide_eq_true q; omega)
      · have c1' : ¬ l[i].At.toNat ≤ a.toNat := fun q => c1 (le64.2 q)
        rw [bN c1]
        exact next (fun q => by unfold inR at q; have := of_decide_eq_true q; omega)
    · rw [bN (by simp only [len]; omega), findR_none]
      · rfl
      intro j hj h1 h2
      exact hb j hj (by omega) (by unfold inR; exact decide_eq_true ⟨h1, h2⟩)
theorem inL0 (a : UInt64) (l : List Region) (hl : l.length ≤ 16) : ∀ (nf i : Nat), i ≤ l.length → l.length - i < nf → law02zGmemHolds_1L1 a 0 l nf (i : Int) = some false
  | 0, i, _, h => absurd h (Nat.not_lt_zero _)
  | nf + 1, i, hi, hf => by
    unfold law02zGmemHolds_1L1 law02zGmemHolds_1L1B
    by_cases h : i < l.length
    · rw [bP (by simp only [len]; omega), bN (by decide), wi_succ (by omega)]
      exact inL0 a l hl nf (i + 1) (by omega) (by omega)
    · rw [bN (by simp only [len]; omega)]
theorem in_eq (a n : UInt64) (l : List Region) (hg : goodM l) : law02zGmemHolds_1 a n l = some (findR l a.toNat n.toNat).isSome := by
  unfold law02zGmemHolds_1
  have hl := hg.1
  by_cases hn : 0 < n.toNat
  · exact inL a n l hg hn fuel 0 (by omega) (by unfold fuel; omega) (fun j hj h => by omega)
  · have : n = 0 := UInt64.toNat_inj.1 (by simpa using hn)
    subst this
    have e := inL0 a l hl fuel 0 (by omega) (by unfold fuel; omega)
    rw [show ((0 : Nat) : Int) = 0 from rfl] at e
    rw [e]; unfold findR; rfl
/-- the bytes that a map has from an address on -/
def ysM (a : UInt64) (m : List (UInt64 × UInt8)) (n : Nat) : List UInt8 := (List.range n).map fun k => mget 0 (a + UInt64.ofNat k) m
theorem ysM_get {a : UInt64} {m : List (UInt64 × UInt8)} {n i : Nat} (h : i < n) : (ysM a m n).drop i = mget 0 (a + UInt64.ofNat i) m :: (ysM a m n).drop (i + 1) := by
  have hl : (ysM a m n).length = n := by simp [ysM]
  rw [List.drop_eq_getElem_cons (by omega)]
  refine congrArg (· :: _) ?_
  simp [ysM]
theorem loadM (m1 : List Region) (rows : List (List UInt8)) (map : List (UInt64 × UInt8)) (i1 : Int) (L1 : List Region → List (List UInt8) → List (UInt64 × UInt8) → Int → Option Bool) (d : dumbwaiterlaw02_Act) (y : Int) (ld : UInt64 × Int) (n : Nat) (hn : n ≤ 8) : ∀ (nf i : Nat), i ≤ n → i < nf →
    law02zGmemHoldsL5 m1 rows map i1 L1 d y ld nf (horF ((ysM d.At map n).drop i)) ((i : Int) - 1) =
    (ob (law02zGmemHolds_1 d.At (u64 y) m1) fun g => chk (!((ld.2 == (0 : Int)) != g)) <| br (ld.2 == (0 : Int)) (chk (!(ld.1 != horF (ysM d.At map n))) <| L1 m1 rows map (wi (i1 + 1))) (L1 m1 rows map (wi (i1 + 1))))
  | 0, i, _, h => absurd h (Nat.not_lt_zero _)
  | nf + 1, 0, hi, hf => by
    unfold law02zGmemHoldsL5 law02zGmemHoldsL5B
    rw [bN (by omega), List.drop_zero]; rfl
  | nf + 1, i + 1, hi, hf => by
    unfold law02zGmemHoldsL5 law02zGmemHoldsL5B
    have e0 : (((i + 1 : Nat) : Int) - 1) = (i : Int) := by omega
    have e1 : wi ((i : Int) - 1) = (i : Int) - 1 := wi_in (by omega) (by omega)
    have e2 : (256 : UInt64) * horF ((ysM d.At map n).drop (i + 1)) + (mget (0 : UInt8) (d.At + u64 (i : Int)) map).toUInt64 = horF ((ysM d.At map n).drop i) := by
      rw [ysM_get (show i < n by omega), u64_of]; rfl
    rw [e0, bP (by omega), e1, e2]
    exact loadM m1 rows map i1 L1 d y ld n hn nf i (by omega) (by omega)
theorem byt_get (v : UInt64) {n i : Nat} (h : i < n) (hn : n ≤ 8) : (shr64 v ((u64 (wi ((8 : Int) * (i : Int)))).toNat)).toUInt8 = (bytesOf v n).getD i 0 := by
  rw [wi8 (by omega), u64_of, UInt64.toNat_ofNat', Nat.mod_eq_of_lt (by omega), List.getD_eq_getElem?_getD]
  unfold bytesOf
  rw [List.getElem?_map, List.getElem?_range h]; rfl
theorem storeM (i1 : Int) (L1 : List Region → List (List UInt8) → List (UInt64 × UInt8) → Int → Option Bool) (b : List (List UInt8)) (m1 : List Region) (map : List (UInt64 × UInt8)) (K : Int) (A : UInt64) (N : Int) (V : UInt64) (B : List UInt8) (n : Nat) (hn : n ≤ 8) : ∀ (nf i : Nat), i ≤ n → n - i < nf →
    law02zGmemHoldsL6 i1 L1 (n : Int) ((0 : Int), b) nf m1 (putN A (bytesOf V n) i map) K A N V B (i : Int) = L1 m1 b (putN A (bytesOf V n) n map) (wi (i1 + 1))
  | 0, i, _, h => absurd h (Nat.not_lt_zero _)
  | nf + 1, i, hi, hf => by
    unfold law02zGmemHoldsL6 law02zGmemHoldsL6B
    by_cases h : i < n
    · rw [bP (by omega), bE rfl, byt_get V h hn, u64_of, wi_succ (by omega)]
      exact storeM i1 L1 b m1 map K A N V B n hn nf (i + 1) (by omega) (by omega)
    · have : i = n := by omega
      subst this
      rw [bN (by omega)]; rfl
theorem store0 (i1 : Int) (L1 : List Region → List (List UInt8) → List (UInt64 × UInt8) → Int → Option Bool) (y e : Int) (he : e ≠ 0) (b : List (List UInt8)) (m1 : List Region) (map : List (UInt64 × UInt8)) (K : Int) (A : UInt64) (N : Int) (V : UInt64) (B : List UInt8) (nf : Nat) (i : Int) :
    law02zGmemHoldsL6 i1 L1 y (e, b) (nf + 1) m1 map K A N V B i = L1 m1 b map (wi (i1 + 1)) := by
  unfold law02zGmemHoldsL6 law02zGmemHoldsL6B
  rw [bF (show ¬ (e, b).1 = 0 from he)]
  cases decide (i < y) <;> rfl
theorem writeM (i1 : Int) (L1 : List Region → List (List UInt8) → List (UInt64 × UInt8) → Int → Option Bool) (b : List (List UInt8)) (m1 : List Region) (map : List (UInt64 × UInt8)) (K : Int) (A : UInt64) (N : Int) (V : UInt64) (B : List UInt8) (hn : B.length ≤ 2000) : ∀ (nf i : Nat), i ≤ B.length → B.length - i < nf →
    law02zGmemHoldsL8 i1 L1 ((0 : Int), b) nf m1 (putN A B i map) K A N V B (i : Int) = L1 m1 b (putN A B B.length map) (wi (i1 + 1))
  | 0, i, _, h => absurd h (Nat.not_lt_zero _)
  | nf + 1, i, hi, hf => by
    unfold law02zGmemHoldsL8 law02zGmemHoldsL8B
    by_cases h : i < B.length
    · have e : B[i] = B.getD i 0 := by rw [List.getD_eq_getElem?_getD, getq h]; rfl
      rw [bP (by simp only [len]; omega), bE rfl, oS (ix_nat (getq h)), e, u64_of, wi_succ (by omega)]
      exact writeM i1 L1 b m1 map K A N V B hn nf (i + 1) (by omega) (by omega)
    · have : i = B.length := by omega
      subst this
      rw [bN (by simp only [len]; omega)]; rfl
theorem write0 (i1 : Int) (L1 : List Region → List (List UInt8) → List (UInt64 × UInt8) → Int → Option Bool) (e : Int) (he : e ≠ 0) (b : List (List UInt8)) (m1 : List Region) (map : List (UInt64 × UInt8)) (K : Int) (A : UInt64) (N : Int) (V : UInt64) (B : List UInt8) (nf : Nat) (i : Int) :
    law02zGmemHoldsL8 i1 L1 (e, b) (nf + 1) m1 map K A N V B i = L1 m1 b map (wi (i1 + 1)) := by
  unfold law02zGmemHoldsL8 law02zGmemHoldsL8B
  rw [bF (show ¬ (e, b).1 = 0 from he)]
  cases decide (i < len B) <;> rfl
/-- the image -/
theorem flatg (b : List (List UInt8)) {i k : Nat} (hi : i < b.length) (hk : k < b[i].length) : b.flatten[(b.take i).flatten.length + k]? = b[i][k]? := by
  have e : b.flatten = (b.take i).flatten ++ (b[i] ++ (b.drop (i + 1)).flatten) := by
    conv => lhs; rw [← List.take_append_drop i b, List.flatten_append, List.drop_eq_getElem_cons hi]
    rfl
  rw [e, List.getElem?_append_right (by omega), Nat.add_sub_cancel_left, List.getElem?_append_left hk]
theorem flat_succ (b : List (List UInt8)) {i : Nat} (hi : i < b.length) : (b.take (i + 1)).flatten.length = (b.take i).flatten.length + b[i].length := by
  rw [List.take_add_one, getq hi, List.flatten_append]; simp
theorem imgL (l : List Region) (b : List (List UInt8)) (map : List (UInt64 × UInt8)) (hm : memOk l b) (ho : mapOk l b map) (i : Nat) (hi : i < l.length) (hb : i < b.length) (L9 : Int → Int → Option Bool) (ht : b.flatten.length ≤ 1048576) : ∀ (nf k : Nat), k ≤ l[i].Len.toNat → l[i].Len.toNat - k < nf →
    law02zGmemHoldsL10 l map b.flatten (i : Int) L9 nf (((b.take i).flatten.length + k : Nat) : Int) (UInt64.ofNat k) = L9 (((b.take (i + 1)).flatten.length : Nat) : Int) (((i + 1 : Nat)) : Int)
  | 0, k, _, h => absurd h (Nat.not_lt_zero _)
  | nf + 1, k, hk, hf => by
    have hl := hm.1.1
    have hr := hm.2.2 i _ _ (getq hi) (getq hb)
    have hlt := l[i].Len.toNat_lt
    have gi := ix_nat (getq hi)
    unfold law02zGmemHoldsL10 law02zGmemHoldsL10B
    rw [oS gi]
    have tk : (UInt64.ofNat k).toNat = k := by rw [UInt64.toNat_ofNat']; omega
    by_cases h : k < l[i].Len.toNat
    · have g := flatg b hb (k := k) (by omega)
      have hlen : (b.take i).flatten.length + k < b.flatten.length := by
        rcases Nat.lt_or_ge ((b.take i).flatten.length + k) b.flatten.length with q | q
        · exact q
        · rw [List.getElem?_eq_none q, getq (by omega)] at g; cases g
      rw [ho i k _ _ (getq hi) (getq hb) h] at g
      rw [bP (lt64.2 (by rw [tk]; exact h)), cnQ (decide_eq_false (by simp only [len]; omega)) rfl, oS (ix_nat g), oS gi, cnQ (bneF rfl) rfl, wi_succ (by omega)]
      have ek : UInt64.ofNat k + 1 = UInt64.ofNat (k + 1) := by rw [UInt64.ofNat_add]; rfl
      rw [ek]
      exact imgL l b map hm ho i hi hb L9 ht nf (k + 1) (by omega) (by omega)
    · have : k = l[i].Len.toNat := by omega
      rw [bN (fun q => h (by have := lt64.1 q; rw [tk] at this; exact this)), wi_succ (by omega), flat_succ b hb, hr, this]
theorem imgM (l : List Region) (b : List (List UInt8)) (map : List (UInt64 × UInt8)) (hm : memOk l b) (ho : mapOk l b map) (ht : b.flatten.length ≤ 1048576) : ∀ (nf i : Nat), i ≤ l.length → l.length - i < nf →
    law02zGmemHoldsL9 l map b.flatten nf (((b.take i).flatten.length : Nat) : Int) (i : Int) = some true
  | 0, i, _, h => absurd h (Nat.not_lt_zero _)
  | nf + 1, i, hi, hf => by
    have hl := hm.1.1
    unfold law02zGmemHoldsL9 law02zGmemHoldsL9B
    by_cases h : i < l.length
    · have hb : i < b.length := by rw [hm.2.1]; exact h
      have hlt := l[i].Len.toNat_lt
      have := imgL l b map hm ho i h hb (law02zGmemHoldsL9 l map b.flatten nf) ht fuel 0 (by omega) (by rw [fuelS]; omega)
      rw [Nat.add_zero] at this
      rw [bP (by simp only [len]; omega)]
      refine Eq.trans this ?_
      exact imgM l b map hm ho ht nf (i + 1) (by omega) (by omega)
    · rw [bN (by simp only [len]; omega), List.take_of_length_le (by rw [hm.2.1]; omega)]
      have : (((b.flatten.length : Nat) : Int) == len b.flatten) = true := beq_self_eq_true _
      rw [this]; rfl
theorem size_ok (k : Nat) (h : k < 4) : ∃ n : Nat, ix [(1 : Int), 2, 4, 8] (k : Int) = some (n : Int) ∧ isW (n : Int) = true ∧ n ≤ 8 ∧ 0 < n := by
  have : k = 0 ∨ k = 1 ∨ k = 2 ∨ k = 3 := by omega
  rcases this with rfl | rfl | rfl | rfl
  · exact ⟨1, rfl, rfl, by omega, by omega⟩
  · exact ⟨2, rfl, rfl, by omega, by omega⟩
  · exact ⟨4, rfl, rfl, by omega, by omega⟩
  · exact ⟨8, rfl, rfl, by omega, by omega⟩
theorem read_is {l : List Region} {b : List (List UInt8)} {a n : Nat} (hm : memOk l b) : (findR l a n).isSome = (readR l b a n).isSome := by
  unfold readR
  cases hf : findR l a n with
  | none => rfl
  | some i =>
    obtain ⟨hi, _⟩ := findR_in hf
    have hb : i < b.length := by rw [hm.2.1]; exact hi
    simp only [getq hi, getq hb]; rfl
theorem write_is {l : List Region} {b : List (List UInt8)} {a : Nat} {xs : List UInt8} (hm : memOk l b) : (findR l a xs.length).isSome = (writeR l b a xs).isSome := by
  unfold writeR
  cases hf : findR l a xs.length with
  | none => rfl
  | some i =>
    obtain ⟨hi, _⟩ := findR_in hf
    have hb : i < b.length := by rw [hm.2.1]; exact hi
    simp only [getq hi, getq hb]; rfl
theorem u64n {n : Nat} (h : n ≤ 100000) : (u64 (n : Int)).toNat = n := by rw [u64_of, UInt64.toNat_ofNat']; omega
theorem ghL (l : List Region) (calls : List dumbwaiterlaw02_Act) (hg : goodM l) (m2 : gmem_Mem) (hm2 : m2.l = l) (hc : calls.length ≤ 80) (hB : ∀ d ∈ calls, d.B.length ≤ 2000) : ∀ (nf i : Nat) (b : List (List UInt8)) (map : List (UInt64 × UInt8)), i ≤ calls.length → calls.length - i < nf → memOk l b → mapOk l b map → law02zGmemHoldsL1 calls m2 nf l b map (i : Int) = some true
  | 0, i, _, _, _, h, _, _ => absurd h (Nat.not_lt_zero _)
  | nf + 1, i, b, map, hi, hf, hb, ho => by
    have hl := hg.1
    unfold law02zGmemHoldsL1 law02zGmemHoldsL1B
    rw [hm2]
    by_cases h : i < calls.length
    · have hBi := hB _ (List.getElem_mem h)
      obtain ⟨p, hp, hp4⟩ := pick_eq calls[i].N 4 (by decide) (by decide)
      obtain ⟨n, hn, hw, hn8, hn0⟩ := size_ok p hp4
      obtain ⟨k, hk, hk5⟩ := pick_eq calls[i].Kind 5 (by decide) (by decide)
      have next : ∀ b' map', memOk l b' → mapOk l b' map' → law02zGmemHoldsL1 calls m2 nf l b' map' (wi ((i : Int) + 1)) = some true := fun b' map' h1 h2 => by
        rw [wi_succ (by omega)]
        exact ghL l calls hg m2 hm2 hc hB nf (i + 1) b' map' (by omega) (by omega) h1 h2
      rw [bP (by simp only [len]; omega), oS (ix_nat (getq h)), oS (show kit_Pick calls[i].N (4 : Int) = some (p : Int) from hp), oS hn, oS (show kit_Pick calls[i].Kind (5 : Int) = some (k : Int) from hk)]
      by_cases h0 : (k : Int) = 0
      · rw [bE h0, oS (load_eq ⟨l, b⟩ hb _ _), hw, if_pos rfl]
        have e1 : wi ((n : Int) - 1) = (n : Int) - 1 := wi_in (by omega) (by omega)
        have e2 : (0 : UInt64) = horF ((ysM calls[i].At map n).drop n) := by rw [List.drop_of_length_le (by simp [ysM])]; rfl
        rw [e1]
        conv => lhs; arg 10; rw [e2]
        rw [loadM _ _ _ _ _ _ _ _ n hn8 fuel n (Nat.le_refl _) (by rw [fuelS]; omega), oS (in_eq _ _ _ hg), u64n (by omega), read_is hb, Int.toNat_natCast]
        cases hr : readR l b calls[i].At.toNat n with
        | none =>
          dsimp only
          rw [cnQ (by rfl) rfl, bF (by decide)]
          exact next b map hb ho
        | some xs =>
          dsimp only
          rw [cnQ (by rfl) rfl, bE rfl, cnQ (bneF (show horF xs = horF (ysM calls[i].At map n) from congrArg horF (map_read hb ho hr))) rfl]
          exact next b map hb ho
      by_cases h1 : (k : Int) = 1
      · rw [bF h0, bE h1, oS (store_eq ⟨l, b⟩ hb _ _ _), hw, if_pos rfl, oS (in_eq _ _ _ hg), u64n (by omega), Int.toNat_natCast]
        have hi2 := write_is (a := calls[i].At.toNat) (xs := bytesOf calls[i].V n) hb
        rw [bytesOf_len] at hi2
        rw [hi2]
        cases hr : writeR l b calls[i].At.toNat (bytesOf calls[i].V n) with
        | none =>
          dsimp only
          rw [cnQ (by rfl) rfl, fuelS, store0 _ _ _ _ (by decide)]
          exact next b map hb ho
        | some b' =>
          dsimp only
          rw [cnQ (by rfl) rfl]
          have := storeM (i : Int) (law02zGmemHoldsL1 calls m2 nf) b' l map calls[i].Kind calls[i].At calls[i].N calls[i].V calls[i].B n hn8 fuel 0 (by omega) (by rw [fuelS]; omega)
          refine Eq.trans this ?_
          have w := map_write hb ho hr
          rw [bytesOf_len] at w
          exact next b' _ (write_ok hb hr) w
      by_cases h3 : (k : Int) = 3
      · rw [bF h0, bF h1, bE h3, oS (own_eq _ (by omega)), oS (write_eqM ⟨l, b⟩ hb _ _ (by omega))]
        by_cases hz : calls[i].B = []
        · rw [if_pos hz, bE (show len calls[i].B = 0 by rw [hz]; rfl), cnQ (by rfl) rfl, fuelS]
          unfold law02zGmemHoldsL7 law02zGmemHoldsL7B
          rw [bN (by rw [hz]; decide)]
          exact next b map hb ho
        · have hpos : 0 < calls[i].B.length := List.length_pos_iff.2 hz
          rw [if_neg hz, bF (show ¬ len calls[i].B = 0 by simp only [len]; omega), oS (in_eq _ _ _ hg), show len calls[i].B = ((calls[i].B.length : Nat) : Int) from rfl, u64n (by omega), write_is (a := calls[i].At.toNat) (xs := calls[i].B) hb]
          cases hr : writeR l b calls[i].At.toNat calls[i].B with
          | none =>
            dsimp only
            rw [cnQ (by rfl) rfl, fuelS, write0 _ _ _ (by decide)]
            exact next b map hb ho
          | some b' =>
            dsimp only
            rw [cnQ (by rfl) rfl]
            have := writeM (i : Int) (law02zGmemHoldsL1 calls m2 nf) b' l map calls[i].Kind calls[i].At calls[i].N calls[i].V calls[i].B hBi fuel 0 (by omega) (by rw [fuelS]; omega)
            refine Eq.trans this ?_
            exact next b' _ (write_ok hb hr) (map_write hb ho hr)
      · rw [bF h0, bF h1, bF h3, oS (has_eq ⟨l, b⟩ hb _ _), oS (in_eq _ _ _ hg), cnQ (bneF rfl) rfl]
        exact next b map hb ho
    · have hs : b.flatten.length ≤ 1048576 := by have := memOk_len hb.2.1 hb.2.2; unfold lenR at this; rw [this]; exact hg.2.2
      rw [bN (by simp only [len]; omega), oS (image_eq ⟨l, b⟩ hb)]
      have := imgM l b map hb ho hs fuel 0 (by omega) (by rw [fuelS]; omega)
      exact this
theorem t_law02zGmemHolds (l : List Region) (calls : List dumbwaiterlaw02_Act) : law02zGmemHolds l calls = some true := by
  unfold law02zGmemHolds
  have hn : (!true) = false := rfl
  rw [oS lives02, cNT hn]
  obtain ⟨q, hq, hq2⟩ := lightR l 20000
  obtain ⟨p, hp, hp2⟩ := small_eq calls
  rw [oS hq]
  cases q with
  | false => rfl
  | true =>
    have h40 := hq2 rfl
    rw [bFl hn, oS hp]
    cases p with
    | false => rfl
    | true =>
      obtain ⟨hc, hB⟩ := hp2 rfl
      have kr : kit_Regions l = some l := by unfold kit_Regions; rw [cFits (by simp; omega)]
      rw [bFl hn, oS (gmemCheck l)]
      by_cases hg : goodM l
      · rw [errM_good hg, nE rfl, oS kr, oS (new_ok hg)]
        dsimp only
        rw [onS, cnE rfl]
        exact ghL l calls hg _ rfl hc hB fuel 0 (zer l) [] (by omega) (by rw [fuelS]; omega) (zer_ok hg) (map_zer l)
      · rw [errM_bad hg, nF (by decide)]
end Go.Proofs.Ytecmlfmbmligeaa
