/- Plain words of the pure models: numbers as the model keeps them, partial steps, loops' fuel. No program in sight; no condition. -/
import GoSem.Core.View
import GoSem.Claim
import Derived.Laws.BitsLemmas
namespace Go.Proofs.Ytlofegfaphijpaa

abbrev vI (n : Int) : Value := .int .i64 n
abbrev vU8 (x : UInt8) : Value := .int .u8 (x.toNat : Int)
abbrev vU16 (x : UInt16) : Value := .int .u16 (x.toNat : Int)
abbrev vU32 (x : UInt32) : Value := .int .u32 (x.toNat : Int)
abbrev vU64 (x : UInt64) : Value := .int .u64 (x.toNat : Int)
abbrev vB (b : Bool) : Value := .bool b
/-- an int64 as it wraps -/
def wi (n : Int) : Int := (n + 9223372036854775808) % 18446744073709551616 - 9223372036854775808
theorem wi_wrap (n : Int) : IntKind.i64.wrap n = wi n := IntKind.wrap_i64 n
theorem wi_eq (n : Int) : wi n = (n + 9223372036854775808) % 18446744073709551616 - 9223372036854775808 := rfl
theorem wi_in {n : Int} (h : -9223372036854775808 ≤ n) (h' : n ≤ 9223372036854775807) : wi n = n := by rw [wi_eq]; omega

/-! partial steps -/
def chk {ρ : Type} (c : Bool) (k : Option ρ) : Option ρ := bif c then k else none
def ob {α ρ : Type} (x : Option α) (k : α → Option ρ) : Option ρ := match x with | some a => k a | none => none
def lt {α ρ : Type} (x : α) (k : α → Option ρ) : Option ρ := k x
def br {ρ : Type} (c : Bool) (x y : Option ρ) : Option ρ := bif c then x else y
theorem chk_e {ρ : Type} {c : Bool} {k : Option ρ} {r : ρ} (h : chk c k = some r) : c = true ∧ k = some r := by cases c <;> simp_all [chk]
theorem ob_e {α ρ : Type} {x : Option α} {k : α → Option ρ} {r : ρ} (h : ob x k = some r) : ∃ a, x = some a ∧ k a = some r := by cases x <;> simp_all [ob]
theorem br_t {ρ : Type} {c : Bool} {x y : Option ρ} {r : ρ} (e : c = true) (h : br c x y = some r) : x = some r := by subst e; exact h
theorem br_f {ρ : Type} {c : Bool} {x y : Option ρ} {r : ρ} (e : c = false) (h : br c x y = some r) : y = some r := by subst e; exact h
theorem not_t {b : Bool} (h : (!b) = true) : b = false := by cases b <;> simp_all
/-- how many rounds a loop may take: more than any memory bears -/
def fuel : Nat := 36893488147419103232

/-! operations -/
/-- the index i, if it is one -/
def ix {α : Type} (l : List α) (i : Int) : Option α := bif decide (0 ≤ i) then l[i.toNat]? else none
def u8 (n : Int) : UInt8 := UInt8.ofNat (n % 256).toNat
def u16 (n : Int) : UInt16 := UInt16.ofNat (n % 65536).toNat
def u32 (n : Int) : UInt32 := UInt32.ofNat (n % 4294967296).toNat
def u64 (n : Int) : UInt64 := UInt64.ofNat (n % 18446744073709551616).toNat
def i16 (x : UInt16) : Int := (x.toNat : Int)
def i32 (x : UInt32) : Int := (x.toNat : Int)
/-- a uint64 as an int -/
def i64 (x : UInt64) : Int := wi (x.toNat : Int)
def len {α : Type} (l : List α) : Int := (l.length : Int)

theorem u16_nat (n : Int) : ((u16 n).toNat : Int) = n % 65536 := by
  have h1 : 0 ≤ n % 65536 := Int.emod_nonneg _ (by decide)
  have h2 : n % 65536 < 65536 := Int.emod_lt_of_pos _ (by decide)
  simp only [u16, UInt16.toNat_ofNat']; omega
theorem u64_nat (n : Int) : ((u64 n).toNat : Int) = n % 18446744073709551616 := by
  have h1 : 0 ≤ n % 18446744073709551616 := Int.emod_nonneg _ (by decide)
  have h2 : n % 18446744073709551616 < 18446744073709551616 := Int.emod_lt_of_pos _ (by decide)
  simp only [u64, UInt64.toNat_ofNat']; omega

/-- shifts by any count -/
def shl64 (x : UInt64) (n : Nat) : UInt64 := UInt64.ofNat (x.toNat * 2 ^ (min n 64))
def shr64 (x : UInt64) (n : Nat) : UInt64 := UInt64.ofNat (x.toNat / 2 ^ (min n 64))
def shli (x : Int) (n : Nat) : Int := wi (x * ((2 ^ (min n 64) : Nat) : Int))
/-- bits of ints -/
def andi (x y : Int) : Int := wi ((BitVec.ofInt 64 x &&& BitVec.ofInt 64 y).toNat : Int)
def remi (x y : Int) : Int := x.tmod y
/-- whether m + n elements of b bytes are few enough -/
def fits (m n b : Nat) : Bool := Nat.ble ((m + n) * b) 140737488355328
/-- x[l:h] -/
def sub {α : Type} (xs : List α) (l h : Int) : List α := (xs.drop l.toNat).take (h.toNat - l.toNat)
def mini (x y : Int) : Int := if y < x then y else x
/-! short arrays -/
structure A1 (α : Type) where
  a0 : α
deriving DecidableEq, Inhabited
/-- the place j laid anew -/
def A1.st {α : Type} (x : A1 α) (j : Nat) (u : α) : A1 α := ⟨bif Nat.beq j 0 then u else x.a0⟩
structure A2 (α : Type) where
  a0 : α
  a1 : α
deriving DecidableEq, Inhabited
/-- the place j laid anew -/
def A2.st {α : Type} (x : A2 α) (j : Nat) (u : α) : A2 α := ⟨bif Nat.beq j 0 then u else x.a0, bif Nat.beq j 1 then u else x.a1⟩
structure A3 (α : Type) where
  a0 : α
  a1 : α
  a2 : α
deriving DecidableEq, Inhabited
/-- the place j laid anew -/
def A3.st {α : Type} (x : A3 α) (j : Nat) (u : α) : A3 α := ⟨bif Nat.beq j 0 then u else x.a0, bif Nat.beq j 1 then u else x.a1, bif Nat.beq j 2 then u else x.a2⟩
structure A4 (α : Type) where
  a0 : α
  a1 : α
  a2 : α
  a3 : α
deriving DecidableEq, Inhabited
/-- the place j laid anew -/
def A4.st {α : Type} (x : A4 α) (j : Nat) (u : α) : A4 α := ⟨bif Nat.beq j 0 then u else x.a0, bif Nat.beq j 1 then u else x.a1, bif Nat.beq j 2 then u else x.a2, bif Nat.beq j 3 then u else x.a3⟩
structure A5 (α : Type) where
  a0 : α
  a1 : α
  a2 : α
  a3 : α
  a4 : α
deriving DecidableEq, Inhabited
/-- the place j laid anew -/
def A5.st {α : Type} (x : A5 α) (j : Nat) (u : α) : A5 α := ⟨bif Nat.beq j 0 then u else x.a0, bif Nat.beq j 1 then u else x.a1, bif Nat.beq j 2 then u else x.a2, bif Nat.beq j 3 then u else x.a3, bif Nat.beq j 4 then u else x.a4⟩
structure A6 (α : Type) where
  a0 : α
  a1 : α
  a2 : α
  a3 : α
  a4 : α
  a5 : α
deriving DecidableEq, Inhabited
/-- the place j laid anew -/
def A6.st {α : Type} (x : A6 α) (j : Nat) (u : α) : A6 α := ⟨bif Nat.beq j 0 then u else x.a0, bif Nat.beq j 1 then u else x.a1, bif Nat.beq j 2 then u else x.a2, bif Nat.beq j 3 then u else x.a3, bif Nat.beq j 4 then u else x.a4, bif Nat.beq j 5 then u else x.a5⟩
end Go.Proofs.Ytlofegfaphijpaa
