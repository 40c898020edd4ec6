/- The types of the program, as they are read. No statement of the seat is proved here; no condition. -/
import Derived.Test.YtbeendakebamhaaEng17
namespace Go.Proofs.Ytbeendakebamhaa

structure Rings where
  Packed : Bool
  Size : Int
  Desc : UInt64
  Driver : UInt64
  Device : UInt64
deriving DecidableEq, Inhabited
def cRings (x : Rings) : List Value := [(vB x.Packed), (vI x.Size), (vU64 x.Desc), (vU64 x.Driver), (vU64 x.Device)]
def RingsS : Shape Rings := Shape.plain 5 true cRings (fun _ => rfl) (fun _ => rfl)
structure Region where
  At : UInt64
  Len : UInt64
deriving DecidableEq, Inhabited
end Go.Proofs.Ytbeendakebamhaa
