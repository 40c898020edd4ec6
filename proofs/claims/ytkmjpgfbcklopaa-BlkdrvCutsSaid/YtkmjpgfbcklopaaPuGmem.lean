/- Memories of regions in plain words: when regions may be; where bytes lie. No condition. -/
import Derived.Test.YtkmjpgfbcklopaaPuBase
namespace Go.Proofs.Ytkmjpgfbcklopaa
/-- where n bytes from a on lie: the region -/
def inR (a n : Nat) (r : Region) : Bool := decide (r.At.toNat ≤ a ∧ a + n ≤ r.At.toNat + r.Len.toNat)
def findR (l : List Region) (a n : Nat) : Option Nat := if n = 0 then none else l.findIdx? (inR a n)
/-- the n bytes from a on -/
def readR (l : List Region) (b : List (List UInt8)) (a n : Nat) : Option (List UInt8) := match findR l a n with
  | none => none
  | some i => match l[i]?, b[i]? with | some r, some x => some ((x.drop (a - r.At.toNat)).take n) | _, _ => none
/-- xs laid at a -/
def writeR (l : List Region) (b : List (List UInt8)) (a : Nat) (xs : List UInt8) : Option (List (List UInt8)) := match findR l a xs.length with
  | none => none
  | some i => match l[i]?, b[i]? with | some r, some x => some (b.set i (x.take (a - r.At.toNat) ++ xs ++ x.drop (a - r.At.toNat + xs.length))) | _, _ => none
end Go.Proofs.Ytkmjpgfbcklopaa
