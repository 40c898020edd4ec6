/- The types of the program, as they are read. No statement of the seat is proved here; no condition. -/
import Derived.Test.YtkdekmjcfoahjaaEng12
namespace Go.Proofs.Ytkdekmjcfoahjaa

structure Seg where
  At : UInt64
  Len : UInt32
  Write : Bool
deriving DecidableEq, Inhabited
def cSeg (x : Seg) : List Value := [(vU64 x.At), (vU32 x.Len), (vB x.Write)]
def SegS : Shape Seg := Shape.plain 3 true cSeg (fun _ => rfl) (fun _ => rfl)
end Go.Proofs.Ytkdekmjcfoahjaa
