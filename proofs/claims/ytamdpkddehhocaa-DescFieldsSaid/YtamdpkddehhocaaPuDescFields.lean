/- The law DescFields in plain words: it answers true. No condition. -/
import Derived.Test.YtamdpkddehhocaaPuDesc
namespace Go.Proofs.Ytamdpkddehhocaa
theorem remi_range (a : Int) {m : Int} (hm : 1 ≤ m) (hm' : m ≤ 4611686018427387904) : -m < remi a m ∧ remi a m < m := by
  unfold remi
  have h1 := Int.tmod_lt_of_pos a (show 0 < m by omega)
  have h2 := Int.lt_tmod_of_pos a (show 0 < m by omega)
  omega
theorem pick_range (n m : Int) (hm : 1 ≤ m) (hm' : m ≤ 4611686018427387904) : ∃ x, kit_Pick n m = some x ∧ 0 ≤ x ∧ x < m := by
  obtain ⟨h1, h2⟩ := remi_range n hm hm'
  have e1 : decide (m < 1) = false := by simpa using hm
  have e2 : (!(m == 0)) = true := by simp; omega
  by_cases h : remi n m < 0
  · refine ⟨remi n m + m, ?_, by omega, by omega⟩
    unfold kit_Pick
    rw [e1, br, cond_false, e2, chk_t, show decide (remi n m < 0) = true by simpa using h, br, cond_true, wi_in (by omega) (by omega)]
  · refine ⟨remi n m, ?_, by omega, by omega⟩
    unfold kit_Pick
    rw [e1, br, cond_false, e2, chk_t, show decide (remi n m < 0) = false by simpa using h, br, cond_false]

theorem ext8 {x y : UInt8} (h : ∀ i, i < 8 → x.toBitVec.getLsbD i = y.toBitVec.getLsbD i) : x = y :=
  UInt8.toBitVec_inj.1 (BitVec.eq_of_getLsbD_eq h)
theorem xor_byt (v : UInt64) (b : UInt8) (n i : Nat) (hn : n % 8 = 0) (hi : i < 8) : byt (v ^^^ shl64 b.toUInt64 n) i = if 8 * i = n then byt v i ^^^ b else byt v i := by
  refine ext8 fun j hj => ?_
  rw [byt_bit]
  simp only [UInt64.toBitVec_xor, BitVec.getLsbD_xor, put_bit]
  by_cases e : 8 * i = n
  · subst e
    simp only [if_pos, UInt8.toBitVec_xor, BitVec.getLsbD_xor, byt_bit]
    have h1 : 8 * i + j < 64 := by omega
    simp [hj, h1]
  · rw [if_neg e, byt_bit]
    by_cases h : 8 * i < n
    · have : ¬ n ≤ 8 * i + j := by omega
      simp [this]
    · have h2 : b.toBitVec.getLsbD (8 * i + j - n) = false := BitVec.getLsbD_of_ge _ _ (by omega)
      simp [h2]
theorem shl32_bv (x : UInt32) (n : Nat) : (shl32 x n).toBitVec = x.toBitVec <<< n := by
  apply BitVec.eq_of_toNat_eq
  simp only [shl32, UInt32.toNat_toBitVec, UInt32.toNat_ofNat', BitVec.toNat_shiftLeft, Nat.shiftLeft_eq]
  by_cases h : n ≤ 32
  · rw [Nat.min_eq_left h]
  · rw [Nat.min_eq_right (by omega)]
    have e : 2 ^ n = 2 ^ 32 * 2 ^ (n - 32) := by rw [← Nat.pow_add]; congr 1; omega
    rw [e, ← Nat.mul_assoc, Nat.mul_right_comm, Nat.mul_mod_left, Nat.mul_mod_left]
theorem shl16_bv (x : UInt16) (n : Nat) : (shl16 x n).toBitVec = x.toBitVec <<< n := by
  apply BitVec.eq_of_toNat_eq
  simp only [shl16, UInt16.toNat_toBitVec, UInt16.toNat_ofNat', BitVec.toNat_shiftLeft, Nat.shiftLeft_eq]
  by_cases h : n ≤ 16
  · rw [Nat.min_eq_left h]
  · rw [Nat.min_eq_right (by omega)]
    have e : 2 ^ n = 2 ^ 16 * 2 ^ (n - 16) := by rw [← Nat.pow_add]; congr 1; omega
    rw [e, ← Nat.mul_assoc, Nat.mul_right_comm, Nat.mul_mod_left, Nat.mul_mod_left]
theorem xor32 (v : UInt32) (b : UInt8) (n : Nat) (hk : n ≤ 24) : (v ^^^ shl32 b.toUInt32 n).toUInt64 = v.toUInt64 ^^^ shl64 b.toUInt64 n := by
  refine ext64 fun j hj => ?_
  simp only [UInt32.toBitVec_toUInt64, BitVec.getLsbD_setWidth, UInt64.toBitVec_xor, UInt32.toBitVec_xor, BitVec.getLsbD_xor, put_bit, shl32_bv, BitVec.getLsbD_shiftLeft, UInt8.toBitVec_toUInt32]
  by_cases h1 : j < 32
  · by_cases h2 : n ≤ j
    · have h3 : ¬ j < n := by omega
      have h4 : j - n < 32 := by omega
      simp [hj, h1, h2, h3, h4]
    · have h3 : j < n := by omega
      simp [hj, h2, h3]
  · have h2 : v.toBitVec.getLsbD j = false := BitVec.getLsbD_of_ge _ _ (by omega)
    have h3 : b.toBitVec.getLsbD (j - n) = false := BitVec.getLsbD_of_ge _ _ (by omega)
    simp [h1, h2, h3]
theorem xor16 (v : UInt16) (b : UInt8) (n : Nat) (hk : n ≤ 8) : (v ^^^ shl16 b.toUInt16 n).toUInt64 = v.toUInt64 ^^^ shl64 b.toUInt64 n := by
  refine ext64 fun j hj => ?_
  simp only [UInt16.toBitVec_toUInt64, BitVec.getLsbD_setWidth, UInt64.toBitVec_xor, UInt16.toBitVec_xor, BitVec.getLsbD_xor, put_bit, shl16_bv, BitVec.getLsbD_shiftLeft, UInt8.toBitVec_toUInt16]
  by_cases h1 : j < 16
  · by_cases h2 : n ≤ j
    · have h3 : ¬ j < n := by omega
      have h4 : j - n < 16 := by omega
      simp [hj, h1, h2, h3, h4]
    · have h3 : j < n := by omega
      simp [hj, h2, h3]
  · have h2 : v.toBitVec.getLsbD j = false := BitVec.getLsbD_of_ge _ _ (by omega)
    have h3 : b.toBitVec.getLsbD (j - n) = false := BitVec.getLsbD_of_ge _ _ (by omega)
    simp [h1, h2, h3]
theorem up32 (b : UInt8) (n : Nat) (hk : n ≤ 24) : (shl32 b.toUInt32 n).toUInt64 = shl64 b.toUInt64 n := by
  have h := xor32 0 b n hk
  simpa using h
theorem up16 (b : UInt8) (n : Nat) (hk : n ≤ 8) : (shl16 b.toUInt16 n).toUInt64 = shl64 b.toUInt64 n := by
  have h := xor16 0 b n hk
  simpa using h
/-- a descriptor, its byte k turned -/
def turnD (d : Desc) (b : UInt8) (k : Nat) : Desc :=
  if k < 8 then Desc.mk (d.Addr ^^^ shl64 b.toUInt64 (8 * k)) d.Len d.Flags d.Next
  else if k < 12 then Desc.mk d.Addr (d.Len ^^^ shl32 b.toUInt32 (8 * (k - 8))) d.Flags d.Next
  else if k < 14 then Desc.mk d.Addr d.Len (d.Flags ^^^ shl16 b.toUInt16 (8 * (k - 12))) d.Next
  else Desc.mk d.Addr d.Len d.Flags (d.Next ^^^ shl16 b.toUInt16 (8 * (k - 14)))
def turnP (d : Packed) (b : UInt8) (k : Nat) : Packed :=
  if k < 8 then Packed.mk (d.Addr ^^^ shl64 b.toUInt64 (8 * k)) d.Len d.ID d.Flags
  else if k < 12 then Packed.mk d.Addr (d.Len ^^^ shl32 b.toUInt32 (8 * (k - 8))) d.ID d.Flags
  else if k < 14 then Packed.mk d.Addr d.Len (d.ID ^^^ shl16 b.toUInt16 (8 * (k - 12))) d.Flags
  else Packed.mk d.Addr d.Len d.ID (d.Flags ^^^ shl16 b.toUInt16 (8 * (k - 14)))
theorem fin16 {i : Nat} (h : i < 16) : i = 0 ∨ i = 1 ∨ i = 2 ∨ i = 3 ∨ i = 4 ∨ i = 5 ∨ i = 6 ∨ i = 7 ∨ i = 8 ∨ i = 9 ∨ i = 10 ∨ i = 11 ∨ i = 12 ∨ i = 13 ∨ i = 14 ∨ i = 15 := by omega
theorem setD (d : Desc) (b : UInt8) (k : Nat) (hk : k < 16) : ∃ y, ix (bsD d) (k : Int) = some y ∧ (bsD d).set k (y ^^^ b) = bsD (turnD d b k) := by
  rcases fin16 hk with h | h | h | h | h | h | h | h | h | h | h | h | h | h | h | h <;> subst h <;> refine ⟨_, rfl, ?_⟩ <;> simp only [turnD, bsD, List.set_cons_succ, List.set_cons_zero] <;> simp [up32, up16, xor_byt]
theorem setP (d : Packed) (b : UInt8) (k : Nat) (hk : k < 16) : ∃ y, ix (bsP d) (k : Int) = some y ∧ (bsP d).set k (y ^^^ b) = bsP (turnP d b k) := by
  rcases fin16 hk with h | h | h | h | h | h | h | h | h | h | h | h | h | h | h | h <;> subst h <;> refine ⟨_, rfl, ?_⟩ <;> simp only [turnP, bsP, List.set_cons_succ, List.set_cons_zero] <;> simp [up32, up16, xor_byt]

theorem tail_ok (l : List Desc) (cut : Int) (hl : l.length ≤ 300) (d : Desc) (p : Packed) : law_DescFieldsJ1 l cut (d, 0) (p, 0) d p d p = some true := by
  unfold law_DescFieldsJ1
  rw [wi_in (by simp only [len]; omega) (by simp only [len]; omega)]
  obtain ⟨x, h1, h2, h3⟩ := pick_range cut (len l + 1) (by simp only [len]; omega) (by simp only [len]; omega)
  simp only [len] at h3
  have e1 : decide (0 ≤ (0 : Int) ∧ (0 : Int) ≤ x ∧ x ≤ len l) = true := by simp only [len]; simp; omega
  have e2 : decide (0 ≤ x ∧ x ≤ len l ∧ len l ≤ len l) = true := by simp only [len]; simp; omega
  have s1 : (sub l 0 x).length ≤ 300 := by simp only [sub, List.length_take, List.length_drop]; omega
  have s2 : (sub l x (len l)).length ≤ 300 := by simp only [sub, List.length_take, List.length_drop]; omega
  have e3 : decide (((sub l 0 x).flatMap bsD).length + ((sub l x (len l)).flatMap bsD).length ≤ 9223372036854775807) = true := by
    rw [flat_len16, flat_len16]; simp; omega
  have e4 : l.flatMap bsD = (sub l 0 x).flatMap bsD ++ (sub l x (len l)).flatMap bsD := by
    rw [← List.flatMap_append]
    congr 1
    simp only [sub, len, Int.toNat_zero, List.drop_zero, Nat.sub_zero, Int.toNat_natCast]
    rw [List.take_of_length_le (l := List.drop x.toNat l) (by simp), List.take_append_drop]
  simp only [h1, obS, tableD l (by omega), tableD _ (Nat.le_trans s1 (by decide)), tableD _ (Nat.le_trans s2 (by decide)), beqI, chkT, e1, e2, e3]
  rw [← e4, beqI, chkT]
theorem t_law_DescFields (dp0 : Desc) (pp1 : Packed) (atp2 : Int) (byp3 : UInt8) (l : List Desc) (cut : Int) : law_DescFields dp0 pp1 atp2 byp3 l cut = some true := by
  unfold law_DescFields
  rw [lives03, obS, notT, notF, chkT]
  by_cases hl : len l > 300
  · rw [show decide (len l > 300) = true from by simpa using hl, brT]
  rw [show decide (len l > 300) = false from by simpa using hl, brF]
  cases hb : (byp3 == 0)
  case true => rw [brT]
  rw [brF]
  obtain ⟨x, h1, h2, h3⟩ := pick_range atp2 16 (by decide) (by decide)
  obtain ⟨k, rfl⟩ : ∃ k : Nat, x = k := ⟨x.toNat, by omega⟩
  have hk : k < 16 := by omega
  obtain ⟨y, hy, hy'⟩ := setD dp0 byp3 k hk
  obtain ⟨z, hz, hz'⟩ := setP pp1 byp3 k hk
  have l1 : (len (bsD dp0) != 16) = false := rfl
  have l2 : (len (bsP pp1) != 16) = false := rfl
  have hl' : l.length ≤ 300 := by simp only [len] at hl; omega
  simp only [h1, obS, bytesD, bytesP, l1, l2, notF, chkT, hy, hz, Int.toNat_natCast, hy', hz', read_bytesD, read_bytesP]
  have hfin := fun d p => tail_ok l cut hl' d p
  unfold law_DescFieldsJ2
  rcases fin16 hk with h | h | h | h | h | h | h | h | h | h | h | h | h | h | h | h <;> subst h
  all_goals first
    | (rw [show decide (((_ : Nat) : Int) < 8) = true from rfl, brT]; exact hfin _ _)
    | (rw [show decide (((_ : Nat) : Int) < 8) = false from rfl, brF, show decide (((_ : Nat) : Int) < 12) = true from rfl, brT]; exact hfin _ _)
    | (rw [show decide (((_ : Nat) : Int) < 8) = false from rfl, brF, show decide (((_ : Nat) : Int) < 12) = false from rfl, brF, show decide (((_ : Nat) : Int) < 14) = true from rfl, brT]; exact hfin _ _)
    | (rw [show decide (((_ : Nat) : Int) < 8) = false from rfl, brF, show decide (((_ : Nat) : Int) < 12) = false from rfl, brF, show decide (((_ : Nat) : Int) < 14) = false from rfl, brF]; exact hfin _ _)
end Go.Proofs.Ytamdpkddehhocaa
