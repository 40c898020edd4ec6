/- Rings in plain words: how they are laid out. No condition. -/
import Derived.Test.YtbeendakebamhaaPuLayout2
namespace Go.Proofs.Ytbeendakebamhaa
def upN (a t : Nat) : Nat := (a + (t - 1)) / t * t
def qN (p : Bool) : Nat := if p then 4 else 2
def plD (base : Nat) : Nat := upN base 16
def plV (p : Bool) (n : Int) (base : Nat) : Nat := upN (plD base + lenX n) (qN p)
def plW (p : Bool) (n : Int) (base : Nat) : Nat := upN (plV p n base + lenY p n) 4
def plOk (p : Bool) (n : Int) (base : Nat) : Prop := szB p n = true ∧ base + 15 < 18446744073709551616 ∧ plD base + lenX n < 18446744073709551616 ∧ plD base + lenX n + (qN p - 1) < 18446744073709551616 ∧ plV p n base + lenY p n < 18446744073709551616 ∧ plV p n base + lenY p n + 3 < 18446744073709551616 ∧ plW p n base + lenZ p n ≤ 18446744073709551616
instance (p : Bool) (n : Int) (base : Nat) : Decidable (plOk p n base) := by unfold plOk; infer_instance
theorem ofN {n : Nat} (h : n < 18446744073709551616) : (UInt64.ofNat n).toNat = n := by rw [UInt64.toNat_ofNat']; omega
theorem addN {a b : Nat} : UInt64.ofNat a + UInt64.ofNat b = UInt64.ofNat (a + b) := by rw [UInt64.ofNat_add]
end Go.Proofs.Ytbeendakebamhaa
