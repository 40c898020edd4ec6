/- The types of the program, as they are read. No statement of the seat is proved here; no condition. -/
import Derived.Test.YtecmlfmbmligeaaEng17
namespace Go.Proofs.Ytecmlfmbmligeaa

structure Region where
  At : UInt64
  Len : UInt64
deriving DecidableEq, Inhabited
def cRegion (x : Region) : List Value := [(vU64 x.At), (vU64 x.Len)]
def RegionS : Shape Region := Shape.plain 2 true cRegion (fun _ => rfl) (fun _ => rfl)
structure gmem_Mem where
  l : List Region
  b : List (List UInt8)
deriving DecidableEq, Inhabited
end Go.Proofs.Ytecmlfmbmligeaa
