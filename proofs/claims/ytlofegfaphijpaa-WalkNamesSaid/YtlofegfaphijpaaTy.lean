/- The types of the program, as they are read. No statement of the seat is proved here; no condition. -/
import Derived.Test.YtlofegfaphijpaaEng20
namespace Go.Proofs.Ytlofegfaphijpaa

structure Rings where
  Packed : Bool
  Size : Int
  Desc : UInt64
  Driver : UInt64
  Device : UInt64
deriving DecidableEq, Inhabited
structure Desc where
  Addr : UInt64
  Len : UInt32
  Flags : UInt16
  Next : UInt16
deriving DecidableEq, Inhabited
structure Seg where
  At : UInt64
  Len : UInt32
  Write : Bool
deriving DecidableEq, Inhabited
def cSeg (x : Seg) : List Value := [(vU64 x.At), (vU32 x.Len), (vB x.Write)]
def SegS : Shape Seg := Shape.plain 3 true cSeg (fun _ => rfl) (fun _ => rfl)
structure Region where
  At : UInt64
  Len : UInt64
deriving DecidableEq, Inhabited
def cRegion (x : Region) : List Value := [(vU64 x.At), (vU64 x.Len)]
def RegionS : Shape Region := Shape.plain 2 true cRegion (fun _ => rfl) (fun _ => rfl)
structure Taken where
  ID : Int
  Count : Int
  Segs : List Seg
deriving DecidableEq, Inhabited
structure Pos where
  At : Int
  Wrap : Bool
deriving DecidableEq, Inhabited
structure Packed where
  Addr : UInt64
  Len : UInt32
  ID : UInt16
  Flags : UInt16
deriving DecidableEq, Inhabited
structure gmem_Mem where
  l : List Region
  b : List (List UInt8)
deriving DecidableEq, Inhabited
end Go.Proofs.Ytlofegfaphijpaa
