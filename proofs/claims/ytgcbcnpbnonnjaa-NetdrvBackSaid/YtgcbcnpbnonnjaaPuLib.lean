/- Plain words on numbers, their bits and their bytes. No program in sight; no condition. -/
import Derived.Test.YtgcbcnpbnonnjaaPure
import Derived.KernelRfl
namespace Go.Proofs.Ytgcbcnpbnonnjaa

/-! steps; their proofs are laid so that 'simp' writes each step down -/
section
variable {α ρ : Type}
theorem obS {a : α} {k : α → Option ρ} : ob (some a) k = k a := Eq.trans rfl rfl
theorem chkT {k : Option ρ} : chk true k = k := Eq.trans rfl rfl
theorem brT {x y : Option ρ} : br true x y = x := Eq.trans rfl rfl
theorem brF {x y : Option ρ} : br false x y = y := Eq.trans rfl rfl
theorem notT : (!true) = false := Eq.trans rfl rfl
theorem notF : (!false) = true := Eq.trans rfl rfl
theorem beqI {α : Type} [BEq α] [ReflBEq α] (a : α) : (a == a) = true := BEq.rfl
theorem bneI {α : Type} [BEq α] [ReflBEq α] (a : α) : (a != a) = false := by simp [bne]
end

theorem fits_ok {m n b : Nat} (h : (m + n) * b ≤ 140737488355328) : fits m n b = true := by simpa [fits] using h
theorem YF {α : Type} {l : List α} {i : Nat} (h : i < l.length) : l.drop i = l[i] :: l.drop (i + 1) := List.drop_eq_getElem_cons h
theorem wi_nat {n : Nat} (h : n ≤ 9223372036854775807) : wi (n : Int) = n := wi_in (by omega) (by omega)
theorem Zt {n : Nat} (h : n < 9223372036854775807) : wi ((n : Int) + 1) = ((n + 1 : Nat) : Int) := by rw [wi_in (by omega) (by omega)]; omega
end Go.Proofs.Ytgcbcnpbnonnjaa
