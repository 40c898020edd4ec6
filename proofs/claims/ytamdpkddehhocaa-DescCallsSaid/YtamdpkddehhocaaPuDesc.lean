/- Descriptors, used elements, events and tables in plain words: what their functions reckon. No condition. -/
import Derived.Test.YtamdpkddehhocaaMo1
import Derived.Test.YtamdpkddehhocaaPuLib
namespace Go.Proofs.Ytamdpkddehhocaa

def bsD (d : Desc) : List UInt8 := [byt d.Addr 0, byt d.Addr 1, byt d.Addr 2, byt d.Addr 3, byt d.Addr 4, byt d.Addr 5, byt d.Addr 6, byt d.Addr 7, byt d.Len.toUInt64 0, byt d.Len.toUInt64 1, byt d.Len.toUInt64 2, byt d.Len.toUInt64 3, byt d.Flags.toUInt64 0, byt d.Flags.toUInt64 1, byt d.Next.toUInt64 0, byt d.Next.toUInt64 1]
def bsP (d : Packed) : List UInt8 := [byt d.Addr 0, byt d.Addr 1, byt d.Addr 2, byt d.Addr 3, byt d.Addr 4, byt d.Addr 5, byt d.Addr 6, byt d.Addr 7, byt d.Len.toUInt64 0, byt d.Len.toUInt64 1, byt d.Len.toUInt64 2, byt d.Len.toUInt64 3, byt d.ID.toUInt64 0, byt d.ID.toUInt64 1, byt d.Flags.toUInt64 0, byt d.Flags.toUInt64 1]
theorem bytesD (d : Desc) : desc_Bytes d = some (bsD d) := by kernel_rfl
theorem bytesP (d : Packed) : desc_PackedBytes d = some (bsP d) := by kernel_rfl
theorem readD (b0 b1 b2 b3 b4 b5 b6 b7 b8 b9 b10 b11 b12 b13 b14 b15 : UInt8) : desc_Read [b0, b1, b2, b3, b4, b5, b6, b7, b8, b9, b10, b11, b12, b13, b14, b15] =
    some (⟨wrd b0 b1 b2 b3 b4 b5 b6 b7, (wrd b8 b9 b10 b11 0 0 0 0).toUInt32, (wrd b12 b13 0 0 0 0 0 0).toUInt16, (wrd b14 b15 0 0 0 0 0 0).toUInt16⟩, 0) := by
  rw [← or_wrd b0, ← or_wrd4 b8, ← or_wrd2 b12, ← or_wrd2 b14]; kernel_rfl
theorem readP (b0 b1 b2 b3 b4 b5 b6 b7 b8 b9 b10 b11 b12 b13 b14 b15 : UInt8) : desc_ReadPacked [b0, b1, b2, b3, b4, b5, b6, b7, b8, b9, b10, b11, b12, b13, b14, b15] =
    some (⟨wrd b0 b1 b2 b3 b4 b5 b6 b7, (wrd b8 b9 b10 b11 0 0 0 0).toUInt32, (wrd b12 b13 0 0 0 0 0 0).toUInt16, (wrd b14 b15 0 0 0 0 0 0).toUInt16⟩, 0) := by
  rw [← or_wrd b0, ← or_wrd4 b8, ← or_wrd2 b12, ← or_wrd2 b14]; kernel_rfl
theorem read_bytesD (d : Desc) : desc_Read (bsD d) = some (d, 0) := by
  unfold bsD; rw [readD, wrd_byt, wrd4_byt, wrd2_byt, wrd2_byt]
theorem read_bytesP (d : Packed) : desc_ReadPacked (bsP d) = some (d, 0) := by
  unfold bsP; rw [readP, wrd_byt, wrd4_byt, wrd2_byt, wrd2_byt]
theorem bsD_inj {a b : Desc} (h : bsD a = bsD b) : a = b := by
  have := congrArg desc_Read h
  rw [read_bytesD, read_bytesD] at this; simpa using this
theorem bsP_inj {a b : Packed} (h : bsP a = bsP b) : a = b := by
  have := congrArg desc_ReadPacked h
  rw [read_bytesP, read_bytesP] at this; simpa using this
theorem bsD_beq (a b : Desc) : (bsD a == bsD b) = (a == b) := by
  rw [Bool.eq_iff_iff]; simp only [beq_iff_eq]; exact ⟨bsD_inj, fun h => by rw [h]⟩
theorem bsP_beq (a b : Packed) : (bsP a == bsP b) = (a == b) := by
  rw [Bool.eq_iff_iff]; simp only [beq_iff_eq]; exact ⟨bsP_inj, fun h => by rw [h]⟩
theorem bsD_len (d : Desc) : (bsD d).length = 16 := rfl

theorem tableL (l : List Desc) : ∀ (nf x : Nat) (b : List UInt8), x ≤ l.length → l.length - x < nf → l.length ≤ 1000000 → b.length = 16 * x → desc_TableL1 l nf b (x : Int) = some (b ++ (l.drop x).flatMap bsD)
  | 0, x, b, _, h, _, _ => by omega
  | nf + 1, x, b, hx, hn, hl, hb => by
    unfold desc_TableL1 desc_TableL1B
    by_cases h : x < l.length
    · have e : decide ((x : Int) < len l) = true := by simp [len]; exact h
      rw [e, br, cond_true, ix_get h, ob_s, bytesD, ob_s, fits_ok (by rw [bsD_len]; omega), chk_t, wi_succ (by omega)]
      rw [tableL l nf (x + 1) _ (by omega) (by omega) hl (by rw [List.length_append, bsD_len]; omega), drop_ix h, List.flatMap_cons, List.append_assoc]
    · have e : decide ((x : Int) < len l) = false := by simp [len]; omega
      have : l.length ≤ x := by omega
      rw [e, br, cond_false, List.drop_of_length_le this]; simp
theorem tableD (l : List Desc) (h : l.length ≤ 1000000) : desc_Table l = some (l.flatMap bsD) := by
  have := tableL l fuel 0 [] (by omega) (by unfold fuel; omega) h rfl
  unfold desc_Table
  simpa using this
theorem flat_len16 : ∀ (l : List Desc), (l.flatMap bsD).length = 16 * l.length
  | [] => rfl
  | d :: l => by rw [List.flatMap_cons, List.length_append, bsD_len, flat_len16 l]; simp; omega

theorem readTL : ∀ (l : List Desc) (nf : Nat) (out : List Desc), l.length < nf → out.length + l.length ≤ 1000000 → desc_ReadTableL1 nf (l.flatMap bsD) out = some (out ++ l, 0)
  | l, 0, _, h, _ => by omega
  | [], nf + 1, out, _, _ => by
    unfold desc_ReadTableL1 desc_ReadTableL1B
    simp [br, len]
  | d :: l, nf + 1, out, hn, hl => by
    unfold desc_ReadTableL1 desc_ReadTableL1B
    have hlen := flat_len16 (d :: l)
    simp only [List.length_cons] at hlen hl hn
    have e : decide (len ((d :: l).flatMap bsD) > 0) = true := by simp only [len, hlen]; simp; omega
    have e1 : decide (0 ≤ (0 : Int) ∧ (0 : Int) ≤ 16 ∧ 16 ≤ len ((d :: l).flatMap bsD)) = true := by simp only [len, hlen]; simp; omega
    have e2 : decide (0 ≤ (16 : Int) ∧ (16 : Int) ≤ len ((d :: l).flatMap bsD) ∧ len ((d :: l).flatMap bsD) ≤ len ((d :: l).flatMap bsD)) = true := by simp only [len, hlen]; simp; omega
    have s1 : sub ((d :: l).flatMap bsD) 0 16 = bsD d := by
      simp only [sub, List.flatMap_cons]; exact List.take_left' rfl
    have s2 : sub ((d :: l).flatMap bsD) 16 (len ((d :: l).flatMap bsD)) = l.flatMap bsD := by
      simp only [sub, len, List.flatMap_cons]
      rw [show (16 : Int).toNat = (bsD d).length from rfl, List.drop_left, List.take_of_length_le]
      rw [List.length_append, bsD_len]; omega
    rw [e, br, cond_true, e1, chk_t, s1, read_bytesD, ob_s, fits_ok (by simp; omega), chk_t, e2, chk_t, s2, readTL l nf (out ++ [d]) (by omega) (by simp; omega)]
    simp
theorem read_table (l : List Desc) (h : l.length ≤ 1000000) : desc_ReadTable (l.flatMap bsD) = some (l, 0) := by
  unfold desc_ReadTable
  have e : (remi (len (l.flatMap bsD)) 16 != 0) = false := by
    simp only [len, flat_len16, remi]
    have : Int.tmod ((16 * l.length : Nat) : Int) ((16 : Nat) : Int) = 0 := by rw [← Int.ofNat_tmod]; simp
    rw [show (16 : Int) = ((16 : Nat) : Int) from rfl, this]; rfl
  rw [e, br, cond_false, readTL l fuel [] (by unfold fuel; omega) (by simpa using h)]
  simp

theorem sameL (a b : List Desc) (hab : a = b) : ∀ (nf x : Nat), x ≤ a.length → a.length - x < nf → a.length ≤ 1000000 → kit_SameDescsL1 a b nf (x : Int) = some true
  | 0, x, _, h, _ => by omega
  | nf + 1, x, hx, hn, hl => by
    unfold kit_SameDescsL1 kit_SameDescsL1B
    subst hab
    by_cases h : x < a.length
    · have e : decide ((x : Int) < len a) = true := by simp [len]; exact h
      rw [e, br, cond_true, ix_get h, ob_s, ob_s, wi_succ (by omega), sameL a a rfl nf (x + 1) (by omega) (by omega) hl]
      simp [br]
    · have e : decide ((x : Int) < len a) = false := by simp [len]; omega
      rw [e]; rfl
theorem same_refl (a : List Desc) (h : a.length ≤ 1000000) : kit_SameDescs a a = some true := by
  unfold kit_SameDescs
  have e : (len a != len a) = false := by simp
  rw [e, br, cond_false]
  exact sameL a a rfl fuel 0 (by omega) (by unfold fuel; omega) h

/-! words -/
theorem used_word (u : Used) : ob (desc_UsedWord u) desc_ReadUsed = some u := by
  show some (Used.mk _ _) = some u
  rcases u with ⟨i, n⟩
  have h1 : ((i.toUInt64 ||| shl64 n.toUInt64 (32 : UInt64).toNat)).toUInt32 = i := by
    apply UInt32.toBitVec_inj.1
    apply BitVec.eq_of_getLsbD_eq
    intro k hk
    simp only [UInt64.toBitVec_toUInt32, UInt64.toBitVec_or, shl64_bv, BitVec.getLsbD_setWidth, BitVec.getLsbD_or, BitVec.getLsbD_shiftLeft, UInt32.toBitVec_toUInt64]
    have : k < 64 := by omega
    simp [hk, this]
  have h2 : (shr64 (i.toUInt64 ||| shl64 n.toUInt64 (32 : UInt64).toNat) (32 : UInt64).toNat).toUInt32 = n := by
    apply UInt32.toBitVec_inj.1
    apply BitVec.eq_of_getLsbD_eq
    intro k hk
    simp only [UInt64.toBitVec_toUInt32, shr64_bv, UInt64.toBitVec_or, shl64_bv, BitVec.getLsbD_setWidth, BitVec.getLsbD_or, BitVec.getLsbD_shiftLeft, UInt32.toBitVec_toUInt64, BitVec.getLsbD_ushiftRight]
    have h1 : 32 + k < 64 := by omega
    have h2 : k < 64 := by omega
    have h3 : i.toBitVec.getLsbD (32 + k) = false := BitVec.getLsbD_of_ge _ _ (by omega)
    simp [hk, h1, h2, h3]
  rw [h1, h2]
theorem event_word (u : Event) : ob (desc_EventWord u) desc_ReadEvent = some u := by
  show some (Event.mk _ _) = some u
  rcases u with ⟨i, n⟩
  have h1 : ((i.toUInt64 ||| shl64 n.toUInt64 (16 : UInt64).toNat)).toUInt16 = i := by
    apply UInt16.toBitVec_inj.1
    apply BitVec.eq_of_getLsbD_eq
    intro k hk
    simp only [UInt64.toBitVec_toUInt16, UInt64.toBitVec_or, shl64_bv, BitVec.getLsbD_setWidth, BitVec.getLsbD_or, BitVec.getLsbD_shiftLeft, UInt16.toBitVec_toUInt64]
    have : k < 64 := by omega
    simp [hk, this]
  have h2 : (shr64 (i.toUInt64 ||| shl64 n.toUInt64 (16 : UInt64).toNat) (16 : UInt64).toNat).toUInt16 = n := by
    apply UInt16.toBitVec_inj.1
    apply BitVec.eq_of_getLsbD_eq
    intro k hk
    simp only [UInt64.toBitVec_toUInt16, shr64_bv, UInt64.toBitVec_or, shl64_bv, BitVec.getLsbD_setWidth, BitVec.getLsbD_or, BitVec.getLsbD_shiftLeft, UInt16.toBitVec_toUInt64, BitVec.getLsbD_ushiftRight]
    have h1 : 16 + k < 64 := by omega
    have h2 : k < 64 := by omega
    have h3 : i.toBitVec.getLsbD (16 + k) = false := BitVec.getLsbD_of_ge _ _ (by omega)
    simp [hk, h1, h2, h3]
  rw [h1, h2]
theorem event_lt (u : Event) : ∃ w, desc_EventWord u = some w ∧ decide (w < 4294967296) = true := by
  refine ⟨_, rfl, ?_⟩
  have h1 := u.Off.toNat_lt; have h2 := u.Flags.toNat_lt
  have : (u.Off.toUInt64 ||| shl64 u.Flags.toUInt64 (16 : UInt64).toNat).toNat < 4294967296 := by
    rw [UInt64.toNat_or]
    refine Nat.or_lt_two_pow (n := 32) ?_ ?_
    · rw [UInt16.toNat_toUInt64]; omega
    · have : (shl64 u.Flags.toUInt64 (16 : UInt64).toNat).toNat = u.Flags.toNat * 65536 := by
        simp only [shl64, UInt64.toNat_ofNat', UInt16.toNat_toUInt64, UInt64.reduceToNat]; rw [show 2 ^ min 16 64 = 65536 from rfl]; omega
      rw [this]; omega
  simpa [UInt64.lt_iff_toNat_lt] using this
theorem lives03 : law_lives = some true := by decide +kernel
end Go.Proofs.Ytamdpkddehhocaa
