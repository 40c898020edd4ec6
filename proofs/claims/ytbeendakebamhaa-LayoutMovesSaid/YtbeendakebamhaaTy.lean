/- The types of the program, as they are read. No statement of the seat is proved here; no condition. -/
import Derived.Test.YtbeendakebamhaaEng17
namespace Go.Proofs.Ytbeendakebamhaa

structure Rings where
  Packed : Bool
  Size : Int
  Desc : UInt64
  Driver : UInt64
  Device : UInt64
deriving DecidableEq, Inhabited
structure Region where
  At : UInt64
  Len : UInt64
deriving DecidableEq, Inhabited
end Go.Proofs.Ytbeendakebamhaa
