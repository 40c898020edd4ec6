/- Plain words on numbers, their bits and their bytes. No program in sight; no condition. -/
import Derived.Test.YtkmjpgfbcklopaaPure
import Derived.KernelRfl
namespace Go.Proofs.Ytkmjpgfbcklopaa

theorem shr64_bv (x : UInt64) (n : Nat) : (shr64 x n).toBitVec = x.toBitVec >>> n := by
  apply BitVec.eq_of_toNat_eq
  have hx := x.toNat_lt
  simp only [shr64, UInt64.toNat_toBitVec, UInt64.toNat_ofNat', BitVec.toNat_ushiftRight, Nat.shiftRight_eq_div_pow]
  by_cases h : n ≤ 64
  · rw [Nat.min_eq_left h, Nat.mod_eq_of_lt]
    exact Nat.lt_of_le_of_lt (Nat.div_le_self _ _) hx
  · rw [Nat.min_eq_right (by omega)]
    have h1 : x.toNat / 2 ^ 64 = 0 := Nat.div_eq_of_lt hx
    have h2 : x.toNat / 2 ^ n = 0 := Nat.div_eq_of_lt (Nat.lt_of_lt_of_le hx (Nat.pow_le_pow_right (by decide) (by omega)))
    rw [h1, h2]
/-- byte i of a word -/
def byt (v : UInt64) (i : Nat) : UInt8 := (shr64 v (8 * i)).toUInt8
/-! steps; their proofs are laid so that 'simp' writes each step down -/
section
variable {α ρ : Type}
theorem obS {a : α} {k : α → Option ρ} : ob (some a) k = k a := Eq.trans rfl rfl
theorem chkT {k : Option ρ} : chk true k = k := Eq.trans rfl rfl
theorem brT {x y : Option ρ} : br true x y = x := Eq.trans rfl rfl
theorem brF {x y : Option ρ} : br false x y = y := Eq.trans rfl rfl
theorem notT : (!true) = false := Eq.trans rfl rfl
theorem notF : (!false) = true := Eq.trans rfl rfl
theorem beqI {α : Type} [BEq α] [ReflBEq α] (a : α) : (a == a) = true := BEq.rfl
theorem bneI {α : Type} [BEq α] [ReflBEq α] (a : α) : (a != a) = false := by simp [bne]
end

theorem fits_ok {m n b : Nat} (h : (m + n) * b ≤ 140737488355328) : fits m n b = true := by simpa [fits] using h
theorem drop_ix {α : Type} {l : List α} {i : Nat} (h : i < l.length) : l.drop i = l[i] :: l.drop (i + 1) := List.drop_eq_getElem_cons h
theorem wi_nat {n : Nat} (h : n ≤ 9223372036854775807) : wi (n : Int) = n := wi_in (by omega) (by omega)
theorem wi_succ {n : Nat} (h : n < 9223372036854775807) : wi ((n : Int) + 1) = ((n + 1 : Nat) : Int) := by rw [wi_in (by omega) (by omega)]; omega
end Go.Proofs.Ytkmjpgfbcklopaa
