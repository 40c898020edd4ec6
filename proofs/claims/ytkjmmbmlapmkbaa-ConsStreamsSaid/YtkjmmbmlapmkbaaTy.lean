/- The types of the program, as they are read. No statement of the seat is proved here; no condition. -/
import Derived.Test.YtkjmmbmlapmkbaaEng17
namespace Go.Proofs.Ytkjmmbmlapmkbaa

structure Stream where
  Wait : List UInt8
deriving DecidableEq, Inhabited
structure Seg where
  At : UInt64
  Len : UInt32
  Write : Bool
deriving DecidableEq, Inhabited
def cSeg (x : Seg) : List Value := [(vU64 x.At), (vU32 x.Len), (vB x.Write)]
def SegS : Shape Seg := Shape.plain 3 true cSeg (fun _ => rfl) (fun _ => rfl)
structure Port where
  ID : Int
  Name : List UInt8
  Cons : Bool
  Host : Bool
  Guest : Bool
  Ready : Bool
deriving DecidableEq, Inhabited
def cPort (x : Port) : List Value := [(vI x.ID), (vS x.Name), (vB x.Cons), (vB x.Host), (vB x.Guest), (vB x.Ready)]
def PortS : Shape Port := Shape.plain 6 true cPort (fun _ => rfl) (fun _ => rfl)
structure Ports where
  Max : Int
  Ready : Bool
  List : List Port
deriving DecidableEq, Inhabited
structure Region where
  At : UInt64
  Len : UInt64
deriving DecidableEq, Inhabited
def cRegion (x : Region) : List Value := [(vU64 x.At), (vU64 x.Len)]
def RegionS : Shape Region := Shape.plain 2 true cRegion (fun _ => rfl) (fun _ => rfl)
structure gmem_Mem where
  l : List Region
  b : List (List UInt8)
deriving DecidableEq, Inhabited
end Go.Proofs.Ytkjmmbmlapmkbaa
