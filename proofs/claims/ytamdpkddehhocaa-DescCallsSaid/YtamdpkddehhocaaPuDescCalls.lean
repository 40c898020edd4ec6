/- The law DescCalls in plain words: it answers true. No condition. -/
import Derived.Test.YtamdpkddehhocaaPuDesc
namespace Go.Proofs.Ytamdpkddehhocaa
theorem list16 {α : Type} {b : List α} (h : b.length = 16) : ∃ b0 b1 b2 b3 b4 b5 b6 b7 b8 b9 b10 b11 b12 b13 b14 b15, b = [b0, b1, b2, b3, b4, b5, b6, b7, b8, b9, b10, b11, b12, b13, b14, b15] := by
  match b, h with
  | [b0, b1, b2, b3, b4, b5, b6, b7, b8, b9, b10, b11, b12, b13, b14, b15], _ => exact ⟨b0, b1, b2, b3, b4, b5, b6, b7, b8, b9, b10, b11, b12, b13, b14, b15, rfl⟩
theorem refReadD (b0 b1 b2 b3 b4 b5 b6 b7 b8 b9 b10 b11 b12 b13 b14 b15 : UInt8) : ref_Read03 [b0, b1, b2, b3, b4, b5, b6, b7, b8, b9, b10, b11, b12, b13, b14, b15] =
    some (⟨wrd b0 b1 b2 b3 b4 b5 b6 b7, (wrd b8 b9 b10 b11 0 0 0 0).toUInt32, (wrd b12 b13 0 0 0 0 0 0).toUInt16, (wrd b14 b15 0 0 0 0 0 0).toUInt16⟩, 0) := by
  rw [← horner8 b0, ← horner4 b8, ← horner2 b12, ← horner2 b14]; kernel_rfl
theorem refReadP (b0 b1 b2 b3 b4 b5 b6 b7 b8 b9 b10 b11 b12 b13 b14 b15 : UInt8) : ref_ReadPacked03 [b0, b1, b2, b3, b4, b5, b6, b7, b8, b9, b10, b11, b12, b13, b14, b15] =
    some (⟨wrd b0 b1 b2 b3 b4 b5 b6 b7, (wrd b8 b9 b10 b11 0 0 0 0).toUInt32, (wrd b12 b13 0 0 0 0 0 0).toUInt16, (wrd b14 b15 0 0 0 0 0 0).toUInt16⟩, 0) := by
  rw [← horner8 b0, ← horner4 b8, ← horner2 b12, ← horner2 b14]; kernel_rfl
theorem refBytesD (d : Desc) : ref_Bytes03 d = some (bsD d) := by kernel_rfl
theorem refBytesP (d : Packed) : ref_PackedBytes03 d = some (bsP d) := by kernel_rfl
theorem ownB (b : List UInt8) (h : b.length ≤ 5000) : kit_Own b = some b := by
  unfold kit_Own; rw [fits_ok (by simp; omega), chkT]
theorem read16 (b : List UInt8) (h : b.length = 16) : ∃ d, desc_Read b = some (d, 0) ∧ ref_Read03 b = some (d, 0) := by
  obtain ⟨b0, b1, b2, b3, b4, b5, b6, b7, b8, b9, b10, b11, b12, b13, b14, b15, rfl⟩ := list16 h
  exact ⟨_, readD .., refReadD ..⟩
theorem readsD (b : List UInt8) : ∃ r, desc_Read b = some r ∧ ref_Read03 b = some r := by
  by_cases h : b.length = 16
  · obtain ⟨d, h1, h2⟩ := read16 b h; exact ⟨_, h1, h2⟩
  · have e : (len b != 16) = true := by simp only [len]; simp; omega
    exact ⟨_, by unfold desc_Read; rw [e, brT], by unfold ref_Read03; rw [e, brT]⟩
theorem readsP (b : List UInt8) : ∃ r, desc_ReadPacked b = some r ∧ ref_ReadPacked03 b = some r := by
  by_cases h : b.length = 16
  · obtain ⟨b0, b1, b2, b3, b4, b5, b6, b7, b8, b9, b10, b11, b12, b13, b14, b15, rfl⟩ := list16 h
    exact ⟨_, readP .., refReadP ..⟩
  · have e : (len b != 16) = true := by simp only [len]; simp; omega
    exact ⟨_, by unfold desc_ReadPacked; rw [e, brT], by unfold ref_ReadPacked03; rw [e, brT]⟩
/-- a descriptor out of sixteen bytes -/
def dOf (b : List UInt8) : Desc := match desc_Read b with | some r => r.1 | none => default
theorem dOf_eq {b : List UInt8} (h : b.length = 16) : desc_Read b = some (dOf b, 0) ∧ ref_Read03 b = some (dOf b, 0) := by
  obtain ⟨d, h1, h2⟩ := read16 b h
  have : dOf b = d := by unfold dOf; rw [h1]
  rw [this]; exact ⟨h1, h2⟩
def parts16 : Nat → List UInt8 → List Desc
  | 0, _ => []
  | n + 1, b => dOf (b.take 16) :: parts16 n (b.drop 16)
theorem parts_len : ∀ (n : Nat) (b : List UInt8), (parts16 n b).length = n
  | 0, _ => rfl
  | n + 1, b => by simp [parts16, parts_len n]
theorem readT1 : ∀ (n nf : Nat) (b : List UInt8) (out : List Desc), b.length = 16 * n → n < nf → out.length + n ≤ 100000 → desc_ReadTableL1 nf b out = some (out ++ parts16 n b, 0)
  | n, 0, _, _, _, h, _ => by omega
  | 0, nf + 1, b, out, h, _, _ => by
    unfold desc_ReadTableL1 desc_ReadTableL1B
    have : b = [] := List.eq_nil_of_length_eq_zero (by omega)
    subst this
    rw [show decide (len ([] : List UInt8) > 0) = false from rfl, brF]
    simp [parts16]
  | n + 1, nf + 1, b, out, h, hn, ho => by
    unfold desc_ReadTableL1 desc_ReadTableL1B
    have e : decide (len b > 0) = true := by simp only [len]; simp; omega
    have e1 : decide (0 ≤ (0 : Int) ∧ (0 : Int) ≤ 16 ∧ 16 ≤ len b) = true := by simp only [len]; simp; omega
    have e2 : decide (0 ≤ (16 : Int) ∧ (16 : Int) ≤ len b ∧ len b ≤ len b) = true := by simp only [len]; simp; omega
    have s1 : sub b 0 16 = b.take 16 := by simp [sub]
    have s2 : sub b 16 (len b) = b.drop 16 := by
      simp only [sub, len, Int.toNat_natCast]
      rw [show (16 : Int).toNat = 16 from rfl, List.take_of_length_le (by simp)]
    rw [e, brT, e1, chkT, s1, (dOf_eq (b := b.take 16) (by simp; omega)).1, obS, fits_ok (by simp; omega), chkT, e2, chkT, s2, readT1 n nf (b.drop 16) _ (by simp; omega) (by omega) (by simp; omega)]
    simp [parts16]
theorem readT2 (b : List UInt8) : ∀ (n nf : Nat) (x : Nat) (out : List Desc), b.length = 16 * (x + n) → n < nf → out.length + n ≤ 100000 → b.length ≤ 100000 → ref_ReadTable03L1 b nf out ((16 * x : Nat) : Int) = some (out ++ parts16 n (b.drop (16 * x)), 0)
  | n, 0, _, _, _, h, _, _ => by omega
  | 0, nf + 1, x, out, h, _, _, _ => by
    unfold ref_ReadTable03L1 ref_ReadTable03L1B
    rw [show decide (((16 * x : Nat) : Int) < len b) = false from decide_eq_false (by simp only [len]; omega), brF]
    simp [parts16]
  | n + 1, nf + 1, x, out, h, hn, ho, hb => by
    unfold ref_ReadTable03L1 ref_ReadTable03L1B
    have w : wi (((16 * x : Nat) : Int) + 16) = ((16 * (x + 1) : Nat) : Int) := by rw [wi_in (by omega) (by omega)]; omega
    have e : decide (((16 * x : Nat) : Int) < len b) = true := decide_eq_true (by simp only [len]; omega)
    have e1 : decide (0 ≤ ((16 * x : Nat) : Int) ∧ ((16 * x : Nat) : Int) ≤ ((16 * (x + 1) : Nat) : Int) ∧ ((16 * (x + 1) : Nat) : Int) ≤ len b) = true := decide_eq_true (by simp only [len]; omega)
    have s1 : sub b ((16 * x : Nat) : Int) ((16 * (x + 1) : Nat) : Int) = (b.drop (16 * x)).take 16 := by
      simp only [sub, Int.toNat_natCast]; rw [show 16 * (x + 1) - 16 * x = 16 by omega]
    rw [w, e, brT, e1, chkT, s1, (dOf_eq (b := (b.drop (16 * x)).take 16) (by rw [List.length_take, List.length_drop]; omega)).2, obS, fits_ok (by simp only [List.length_cons, List.length_nil]; omega), chkT, readT2 b n nf (x + 1) _ (by omega) (by omega) (by rw [List.length_append, List.length_singleton]; omega) hb]
    rw [parts16, List.drop_drop, List.append_assoc, show 16 * (x + 1) = 16 * x + 16 by omega]
    rfl
theorem readsT (b : List UInt8) (h : b.length ≤ 5000) : ∃ l e, l.length ≤ 1000 ∧ desc_ReadTable b = some (l, e) ∧ ref_ReadTable03 b = some (l, e) := by
  cases hr : (remi (len b) 16 != 0)
  case true => exact ⟨[], 4, by simp, by unfold desc_ReadTable; rw [hr, brT], by unfold ref_ReadTable03; rw [hr, brT]⟩
  have hm : b.length % 16 = 0 := by
    simp only [len, remi] at hr
    have : Int.tmod ((b.length : Nat) : Int) ((16 : Nat) : Int) = 0 := by simpa using hr
    rw [← Int.ofNat_tmod] at this; omega
  refine ⟨parts16 (b.length / 16) b, 0, by rw [parts_len]; omega, ?_, ?_⟩
  · unfold desc_ReadTable
    rw [hr, brF, readT1 (b.length / 16) fuel b [] (by omega) (by unfold fuel; omega) (by simp; omega)]; rfl
  · unfold ref_ReadTable03
    have := readT2 b (b.length / 16) fuel 0 [] (by omega) (by unfold fuel; omega) (by simp; omega) (by omega)
    rw [hr, brF]
    simpa using this
theorem refTableL (l : List Desc) : ∀ (nf x : Nat) (b : List UInt8), x ≤ l.length → l.length - x < nf → l.length ≤ 1000000 → b.length = 16 * x → ref_Table03L1 l nf b (x : Int) = some (b ++ (l.drop x).flatMap bsD)
  | 0, x, b, _, h, _, _ => by omega
  | nf + 1, x, b, hx, hn, hl, hb => by
    unfold ref_Table03L1 ref_Table03L1B
    by_cases h : x < l.length
    · have e : decide ((x : Int) < len l) = true := by simp [len]; exact h
      rw [e, brT, ix_get h, obS, refBytesD, obS, fits_ok (by rw [bsD_len]; omega), chkT, wi_succ (by omega)]
      rw [refTableL l nf (x + 1) _ (by omega) (by omega) hl (by rw [List.length_append, bsD_len]; omega), drop_ix h, List.flatMap_cons, List.append_assoc]
    · have e : decide ((x : Int) < len l) = false := by simp [len]; omega
      have : l.length ≤ x := by omega
      rw [e, brF, List.drop_of_length_le this]; simp
theorem refTableD (l : List Desc) (h : l.length ≤ 1000000) : ref_Table03 l = some (l.flatMap bsD) := by
  have := refTableL l fuel 0 [] (by omega) (by unfold fuel; omega) h rfl
  unfold ref_Table03
  simpa using this
theorem or_add (x y : UInt64) (n : Nat) (hn : n < 64) (hx : x.toNat < 2 ^ n) (hy : y.toNat < 2 ^ (64 - n)) : x ||| shl64 y n = x + shl64 y n := by
  have hm : y.toNat * 2 ^ n < 2 ^ 64 := by
    have : 2 ^ 64 = 2 ^ (64 - n) * 2 ^ n := by rw [← Nat.pow_add]; congr 1; omega
    rw [this]; exact Nat.mul_lt_mul_of_pos_right hy (Nat.two_pow_pos n)
  have e : (shl64 y n).toNat = 2 ^ n * y.toNat := by
    simp only [shl64, UInt64.toNat_ofNat']
    rw [Nat.min_eq_left (by omega), Nat.mod_eq_of_lt hm, Nat.mul_comm]
  have h := Nat.two_pow_add_eq_or_of_lt hx y.toNat
  have hlt : 2 ^ n * y.toNat + x.toNat < 2 ^ 64 := by rw [h]; exact Nat.or_lt_two_pow (by rw [Nat.mul_comm]; exact hm) (Nat.lt_of_lt_of_le hx (Nat.pow_le_pow_right (by decide) (by omega)))
  apply UInt64.toNat_inj.1
  rw [UInt64.toNat_or, UInt64.toNat_add, e, Nat.or_comm, ← h, Nat.add_comm x.toNat, Nat.mod_eq_of_lt hlt]
theorem usedW (u : Used) : desc_UsedWord u = ref_UsedWord03 u := by
  unfold desc_UsedWord ref_UsedWord03
  rw [or_add _ _ _ (by decide) (by rw [UInt32.toNat_toUInt64]; exact u.ID.toNat_lt) (by rw [UInt32.toNat_toUInt64]; exact u.Len.toNat_lt)]
theorem eventW (u : Event) : desc_EventWord u = ref_EventWord03 u := by
  unfold desc_EventWord ref_EventWord03
  rw [or_add _ _ _ (by decide) (by rw [UInt16.toNat_toUInt64]; exact u.Off.toNat_lt) (by rw [UInt16.toNat_toUInt64]; exact Nat.lt_of_lt_of_le u.Flags.toNat_lt (by decide))]
theorem usedR (w : UInt64) : desc_ReadUsed w = ref_ReadUsed03 w := by
  unfold desc_ReadUsed ref_ReadUsed03
  have : (w % 4294967296).toUInt32 = w.toUInt32 := by apply UInt32.toNat_inj.1; simp
  rw [this]
theorem eventR (w : UInt64) : desc_ReadEvent w = ref_ReadEvent03 w := by
  unfold desc_ReadEvent ref_ReadEvent03
  have : ∀ w : UInt64, (w % 65536).toUInt16 = w.toUInt16 := fun w => by apply UInt16.toNat_inj.1; simp
  rw [this, this]
theorem some_of {α : Type} (x : Option α) (h : x.isSome = true) : ∃ y, x = some y := Option.isSome_iff_exists.1 h
theorem t_law_DescCalls (dp0 : Desc) (pp1 : Packed) (wp2 : UInt64) (b : List UInt8) (l : List Desc) (flags : UInt16) (wrap used : Bool) : law_DescCalls dp0 pp1 wp2 b l flags wrap used = some true := by
  unfold law_DescCalls
  rw [lives03, obS, notT, notF, chkT]
  by_cases hb : len b > 5000
  · rw [show decide (len b > 5000) = true from by simpa using hb, brT]
  rw [show decide (len b > 5000) = false from by simpa using hb, brF]
  by_cases hl : len l > 300
  · rw [show decide (len l > 300) = true from by simpa using hl, brT]
  rw [show decide (len l > 300) = false from by simpa using hl, brF]
  have hb' : b.length ≤ 5000 := by simp only [len] at hb; omega
  have hl' : l.length ≤ 1000000 := by simp only [len] at hl; omega
  obtain ⟨r1, h1, h1'⟩ := readsD b
  obtain ⟨r2, h2, h2'⟩ := readsP b
  obtain ⟨r3, e3, hlen, h3, h3'⟩ := readsT b hb'
  obtain ⟨x1, g1⟩ := some_of (ref_ReadUsed03 wp2) rfl
  obtain ⟨x2, g2⟩ := some_of (ref_ReadEvent03 wp2) rfl
  obtain ⟨x3, g3⟩ := some_of (ref_UsedWord03 x1) rfl
  obtain ⟨x4, g4⟩ := some_of (ref_EventWord03 x2) rfl
  have a1 : desc_Avail flags wrap = ref_Avail03 flags wrap := rfl
  have a2 : desc_Used flags wrap = ref_Used03 flags wrap := rfl
  have a3 : desc_Mark flags wrap used = ref_Mark03 flags wrap used := rfl
  obtain ⟨y1, k1⟩ := some_of (ref_Avail03 flags wrap) (by unfold ref_Avail03; cases ((flags &&& 128 != 0) == wrap) <;> rfl)
  obtain ⟨y2, k2⟩ := some_of (ref_Used03 flags wrap) (by unfold ref_Used03; cases ((flags &&& 128 != 0) == wrap) <;> rfl)
  obtain ⟨y3, k3⟩ := some_of (ref_Mark03 flags wrap used) (by cases wrap <;> cases used <;> rfl)
  simp only [ownB b hb', obS, h1, h1', h2, h2', h3, h3', bneI, notF, notT, chkT, same_refl r3 (by omega), g1, g2, usedR, eventR, usedW, eventW, g3, g4, bytesD, bytesP, refBytesD, refBytesP, beqI, tableD l hl', refTableD l hl', a1, a2, a3, k1, k2, k3]
end Go.Proofs.Ytamdpkddehhocaa
