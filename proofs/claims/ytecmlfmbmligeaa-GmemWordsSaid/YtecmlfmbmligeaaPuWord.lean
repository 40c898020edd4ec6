/- Words of memories in plain words: loaded and stored. No condition. -/
import Derived.Test.YtecmlfmbmligeaaPuGmem
namespace Go.Proofs.Ytecmlfmbmligeaa
def isW (n : Int) : Bool := decide (n = 1 ∨ n = 2 ∨ n = 4 ∨ n = 8)
theorem isW_nat {n : Int} (h : isW n = true) : ∃ k : Nat, n = (k : Int) ∧ (k = 1 ∨ k = 2 ∨ k = 4 ∨ k = 8) := by
  unfold isW at h
  simp only [decide_eq_true_eq] at h
  exact ⟨n.toNat, by omega, by omega⟩
def orF : List UInt8 → Nat → UInt64 → UInt64
  | [], _, v => v
  | b :: r, i, v => orF r (i + 1) (v ||| shl64 b.toUInt64 (8 * i))
def horF : List UInt8 → UInt64
  | [] => 0
  | b :: r => 256 * horF r + b.toUInt64
theorem or_hor {xs : List UInt8} (h : xs.length = 1 ∨ xs.length = 2 ∨ xs.length = 4 ∨ xs.length = 8) : orF xs 0 0 = horF xs := by
  rcases h with h | h | h | h
  · rcases xs with _ | ⟨a, _ | ⟨b, xs⟩⟩ <;> simp at h
    have h1 := or_wrd a 0 0 0 0 0 0 0
    have h2 := horner8 a 0 0 0 0 0 0 0
    simp only [shl_zero, or_zero64] at h1
    show (0 : UInt64) ||| shl64 a.toUInt64 0 = 256 * (0 : UInt64) + a.toUInt64
    rw [h1, ← h2]; simp
  · rcases xs with _ | ⟨a, _ | ⟨b, _ | ⟨c, xs⟩⟩⟩ <;> simp at h
    exact (or_wrd2 a b).trans (horner2 a b).symm
  · rcases xs with _ | ⟨a, _ | ⟨b, _ | ⟨c, _ | ⟨d, _ | ⟨e, xs⟩⟩⟩⟩⟩ <;> simp at h
    exact (or_wrd4 a b c d).trans (horner4 a b c d).symm
  · rcases xs with _ | ⟨a, _ | ⟨b, _ | ⟨c, _ | ⟨d, _ | ⟨e, _ | ⟨f, _ | ⟨g, _ | ⟨i, _ | ⟨j, xs⟩⟩⟩⟩⟩⟩⟩⟩⟩ <;> simp at h
    exact (or_wrd a b c d e f g i).trans (horner8 a b c d e f g i).symm
def bytesOf (v : UInt64) (n : Nat) : List UInt8 := (List.range n).map fun k => (shr64 v (8 * k)).toUInt8
theorem bytesOf_len (v : UInt64) (n : Nat) : (bytesOf v n).length = n := by simp [bytesOf]
theorem bytesOf_succ (v : UInt64) (n : Nat) : bytesOf v (n + 1) = bytesOf v n ++ [(shr64 v (8 * n)).toUInt8] := by simp [bytesOf, List.range_succ]
theorem wi8 {i : Nat} (h : i ≤ 8) : wi ((8 : Int) * (i : Int)) = ((8 * i : Nat) : Int) := by rw [wi_in (by omega) (by omega)]; omega
theorem isWord_eq (n : Int) : gmem_isWord n = some (isW n) := by
  unfold gmem_isWord isW
  by_cases h1 : n = 1
  · rw [bE h1, decide_eq_true (.inl h1)]
  by_cases h2 : n = 2
  · rw [bF h1, bE h2, decide_eq_true (.inr (.inl h2))]
  by_cases h4 : n = 4
  · rw [bF h1, bF h2, bE h4, decide_eq_true (.inr (.inr (.inl h4)))]
  rw [bF h1, bF h2, bF h4]
  congr 1
  by_cases h8 : n = 8
  · rw [show (n == 8) = true by rw [h8]; rfl, decide_eq_true (.inr (.inr (.inr h8)))]
  · rw [beq_false_of_ne h8, decide_eq_false (by omega)]
theorem loadL (n : Nat) (hn : n ≤ 8) (w : Int × Int × Int) (row : List UInt8) (hx : (sub row w.2.1 w.2.2).length = n) : ∀ (nf i : Nat) (v : UInt64), i ≤ n → n - i < nf → gmem_Mem_LoadL1 (n : Int) w row nf v (i : Int) = some (orF ((sub row w.2.1 w.2.2).drop i) i v, 0)
  | 0, i, v, _, h => by omega
  | nf + 1, i, v, hi, hf => by
    unfold gmem_Mem_LoadL1 gmem_Mem_LoadL1B
    by_cases h : i < n
    · rw [bP (by omega), oS (ix_nat (getq (by omega))), wi8 (by omega), cP (by omega), wi_succ (by omega), Int.toNat_natCast, loadL n hn w row hx nf (i + 1) _ (by omega) (by omega), drop_ix (by omega : i < (sub row w.2.1 w.2.2).length)]; rfl
    · rw [bN (by omega), List.drop_of_length_le (by omega)]; rfl
theorem load_eq (m : gmem_Mem) (hm : memOk m.l m.b) (a : UInt64) (n : Int) : gmem_Mem_Load m a n = some (if isW n then (match readR m.l m.b a.toNat n.toNat with | none => ((0 : UInt64), (5 : Int)) | some xs => (horF xs, 0)) else (0, 2)) := by
  unfold gmem_Mem_Load
  rw [oS (show gmem_Mem_made m = some true from rfl), oS (isWord_eq n)]
  cases hw : isW n with
  | false => rw [bT (show (!false) = true from rfl)]; rfl
  | true =>
    obtain ⟨k, rfl, hk⟩ := isW_nat hw
    have hk8 : k ≤ 8 := by omega
    rw [bFl (show (!true) = false from rfl), u64_of, oS (bytes_eq m hm a _), UInt64.toNat_ofNat', Nat.mod_eq_of_lt (by omega), Int.toNat_natCast]
    unfold winR readR
    cases hf : findR m.l a.toNat k with
    | none => rfl
    | some i =>
      obtain ⟨hi, q0, q1, q2⟩ := findR_in hf
      have hb : i < m.b.length := by rw [hm.2.1]; exact hi
      have hr := hm.2.2 i _ _ (getq hi) (getq hb)
      have hsum := sumM_get hi
      have hsm := hm.1.2.2
      simp only [getq hi, getq hb]
      rw [onS]
      dsimp only
      have hs : sub m.b[i] ((a.toNat - m.l[i].At.toNat : Nat) : Int) ((a.toNat - m.l[i].At.toNat + k : Nat) : Int) = (m.b[i].drop (a.toNat - m.l[i].At.toNat)).take k := by
        rw [sub_nat]; congr 1; omega
      have hl : ((m.b[i].drop (a.toNat - m.l[i].At.toNat)).take k).length = k := by simp; omega
      rw [oS (ix_nat (getq hb)), cP (by simp only [len]; omega), cP (by omega)]
      have := loadL k hk8 ((i : Int), ((a.toNat - m.l[i].At.toNat : Nat) : Int), ((a.toNat - m.l[i].At.toNat + k : Nat) : Int)) m.b[i] (by dsimp only; rw [hs]; exact hl) fuel 0 0 (by omega) (by unfold fuel; omega)
      dsimp only at this
      rw [hs, List.drop_zero, or_hor (by rw [hl]; exact hk)] at this
      exact this
theorem storeL (m : gmem_Mem) (v : UInt64) (n : Nat) (hn : n ≤ 8) (j o : Nat) (row : List UInt8) (hr : o + n ≤ row.length) (hrl : row.length ≤ 1048576) : ∀ (nf i : Nat), i ≤ n → n - i < nf → gmem_Mem_StoreL1 m (n : Int) v ((j : Int), (o : Int), ((o + n : Nat) : Int)) nf (wrF row o (bytesOf v i)) (i : Int) = some ((0 : Int), m.b.set j (wrF row o (bytesOf v n)))
  | 0, i, _, h => by omega
  | nf + 1, i, hi, hf => by
    have hlen : (wrF row o (bytesOf v i)).length = row.length := wrF_len (by rw [bytesOf_len]; omega)
    unfold gmem_Mem_StoreL1 gmem_Mem_StoreL1B
    dsimp only
    rw [cP (by simp only [len, hlen]; omega)]
    by_cases h : i < n
    · have hs : i < (sub (wrF row o (bytesOf v i)) (o : Int) ((o + n : Nat) : Int)).length := by
        have e : sub (wrF row o (bytesOf v i)) (o : Int) ((o + n : Nat) : Int) = ((wrF row o (bytesOf v i)).drop o).take n := by rw [sub_nat]; congr 1; omega
        rw [e, List.length_take, List.length_drop, hlen]; omega
      rw [bP (by omega), wi8 (by omega), cP (by omega), oS (ix_nat (getq hs)), wi_succ (by omega), Int.toNat_natCast]
      have e : (wrF row o (bytesOf v i)).set (((o : Int) + (i : Int)).toNat) (shr64 v (8 * i)).toUInt8 = wrF row o (bytesOf v (i + 1)) := by
        rw [bytesOf_succ, wrF_snoc (by rw [bytesOf_len]; omega), bytesOf_len]
        congr 1
      rw [e]
      exact storeL m v n hn j o row hr hrl nf (i + 1) (by omega) (by omega)
    · have e : i = n := by omega
      subst e
      rw [bN (by omega), Int.toNat_natCast]
theorem store_eq (m : gmem_Mem) (hm : memOk m.l m.b) (a : UInt64) (n : Int) (v : UInt64) : gmem_Mem_Store m a n v = some (if isW n then (match writeR m.l m.b a.toNat (bytesOf v n.toNat) with | none => ((5 : Int), m.b) | some b => (0, b)) else (2, m.b)) := by
  unfold gmem_Mem_Store
  rw [oS (show gmem_Mem_made m = some true from rfl), oS (isWord_eq n)]
  cases hw : isW n with
  | false => rw [bT (show (!false) = true from rfl)]; rfl
  | true =>
    obtain ⟨k, rfl, hk⟩ := isW_nat hw
    have hk8 : k ≤ 8 := by omega
    rw [bFl (show (!true) = false from rfl), u64_of, oS (bytes_eq m hm a _), UInt64.toNat_ofNat', Nat.mod_eq_of_lt (by omega), Int.toNat_natCast]
    unfold winR writeR
    rw [bytesOf_len]
    cases hf : findR m.l a.toNat k with
    | none => rfl
    | some i =>
      obtain ⟨hi, q0, q1, q2⟩ := findR_in hf
      have hb : i < m.b.length := by rw [hm.2.1]; exact hi
      have hr := hm.2.2 i _ _ (getq hi) (getq hb)
      have hsum := sumM_get hi
      have hsm := hm.1.2.2
      simp only [getq hi, getq hb]
      rw [onS]
      dsimp only
      rw [oS (ix_nat (getq hb)), cP (by simp only [len]; omega), cP (by omega)]
      have := storeL m v k hk8 i (a.toNat - m.l[i].At.toNat) m.b[i] (by omega) (by omega) fuel 0 (by omega) (by unfold fuel; omega)
      rw [show bytesOf v 0 = [] from rfl, wrF_nil] at this
      refine this.trans ?_
      rw [wrF, bytesOf_len]; rfl
end Go.Proofs.Ytecmlfmbmligeaa
