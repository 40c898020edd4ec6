/- The law DescRounds in plain words: it answers true. No condition. -/
import Derived.Test.YtamdpkddehhocaaMo1
namespace Go.Proofs.Ytamdpkddehhocaa
theorem lives03 : law03_lives = some true := by decide +kernel
theorem ext16 {x y : UInt16} (h : ∀ i, i < 16 → x.toBitVec.getLsbD i = y.toBitVec.getLsbD i) : x = y :=
  UInt16.toBitVec_inj.1 (BitVec.eq_of_getLsbD_eq h)
theorem bit_and (x : UInt16) (k : Nat) (hk : k < 16) : (x &&& UInt16.ofNat (2^k) != 0) = x.toBitVec.getLsbD k := by
  have h2 : ∀ i, i < 16 → (UInt16.ofNat (2^k)).toBitVec.getLsbD i = decide (i = k) := by
    intro i hi; revert i k; decide +kernel
  cases h : x.toBitVec.getLsbD k
  · have : x &&& UInt16.ofNat (2^k) = 0 := ext16 fun i hi => by
      rw [UInt16.toBitVec_and, BitVec.getLsbD_and, h2 i hi]
      by_cases e : i = k
      · subst e; simp [h]
      · simp [e]
    rw [this]; rfl
  · have : x &&& UInt16.ofNat (2^k) ≠ 0 := fun e => by
      have := congrArg (fun z : UInt16 => z.toBitVec.getLsbD k) e
      simp only [UInt16.toBitVec_and, BitVec.getLsbD_and, h2 k hk, h] at this
      simp at this
    simpa using this
theorem bit7 (x : UInt16) : (x &&& 128 != 0) = x.toBitVec.getLsbD 7 := bit_and x 7 (by decide)
theorem bit15 (x : UInt16) : (x &&& 32768 != 0) = x.toBitVec.getLsbD 15 := bit_and x 15 (by decide)
/-- what Mark makes -/
def mkd (f : UInt16) (w u : Bool) : UInt16 := (f &&& 32639) ||| (if w then 128 else 0) ||| (if w == u then 32768 else 0)
theorem below16 {i : Nat} (h : i < 16) : i = 0 ∨ i = 1 ∨ i = 2 ∨ i = 3 ∨ i = 4 ∨ i = 5 ∨ i = 6 ∨ i = 7 ∨ i = 8 ∨ i = 9 ∨ i = 10 ∨ i = 11 ∨ i = 12 ∨ i = 13 ∨ i = 14 ∨ i = 15 := by omega
theorem mark_eq (f : UInt16) (w u : Bool) : desc_Mark f w u = some (mkd f w u) := by
  have e : f &&& ~~~32896 = f &&& 32639 := rfl
  cases w <;> cases u <;> simp [desc_Mark, desc_Mark_J1, br, mkd, e]
theorem mkd7 (f : UInt16) (w u : Bool) : (mkd f w u).toBitVec.getLsbD 7 = w := by
  cases w <;> cases u <;> simp [mkd]
theorem mkd15 (f : UInt16) (w u : Bool) : (mkd f w u).toBitVec.getLsbD 15 = (w == u) := by
  cases w <;> cases u <;> simp [mkd]
theorem mkd_rest (f : UInt16) (w u : Bool) : mkd f w u &&& 32639 = f &&& 32639 := ext16 fun i hi => by
  rcases below16 hi with h | h | h | h | h | h | h | h | h | h | h | h | h | h | h | h <;> subst h <;> cases w <;> cases u <;> simp [mkd]
theorem mkd_mkd (f : UInt16) (w u u' : Bool) : mkd (mkd f w u) w u' = mkd f w u' := by
  unfold mkd; rw [show ((f &&& 32639) ||| (if w then 128 else 0) ||| (if w == u then 32768 else 0)) &&& 32639 = f &&& 32639 from mkd_rest f w u]
theorem avail_eq (f : UInt16) (w : Bool) : desc_Avail f w = some (f.toBitVec.getLsbD 7 == w && f.toBitVec.getLsbD 15 != w) := by
  unfold desc_Avail; rw [bit7, bit15]
  cases f.toBitVec.getLsbD 7 <;> cases w <;> rfl
theorem used_eq (f : UInt16) (w : Bool) : desc_Used f w = some (f.toBitVec.getLsbD 7 == w && f.toBitVec.getLsbD 15 == w) := by
  unfold desc_Used; rw [bit7, bit15]
  cases f.toBitVec.getLsbD 7 <;> cases w <;> rfl
theorem t_law03_DescRounds (flags : UInt16) (wrap : Bool) : law03_DescRounds flags wrap = some true := by
  unfold law03_DescRounds
  simp only [lives03, mark_eq, avail_eq, used_eq, ob_s, mkd7, mkd15, mkd_rest, mkd_mkd]
  cases wrap <;> cases flags.toBitVec.getLsbD 7 <;> cases flags.toBitVec.getLsbD 15 <;> simp [br, chk, ob] <;> rfl
end Go.Proofs.Ytamdpkddehhocaa
