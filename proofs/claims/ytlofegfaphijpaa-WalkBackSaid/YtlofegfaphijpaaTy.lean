/- The types of the program, as they are read. No statement of the seat is proved here; no condition. -/
import Derived.Test.YtlofegfaphijpaaGe2
namespace Go.Proofs.Ytlofegfaphijpaa

structure Rings where
  Packed : Bool
  Size : Int
  Desc : UInt64
  Driver : UInt64
  Device : UInt64
deriving DecidableEq, Inhabited
structure Desc where
  Addr : UInt64
  Len : UInt32
  Flags : UInt16
  Next : UInt16
deriving DecidableEq, Inhabited
def cDesc (x : Desc) : List Value := [(vU64 x.Addr), (vU32 x.Len), (vU16 x.Flags), (vU16 x.Next)]
def DescS : Shape Desc := Shape.plain 4 true cDesc (fun _ => rfl) (fun _ => rfl)
structure Seg where
  At : UInt64
  Len : UInt32
  Write : Bool
deriving DecidableEq, Inhabited
def cSeg (x : Seg) : List Value := [(vU64 x.At), (vU32 x.Len), (vB x.Write)]
def SegS : Shape Seg := Shape.plain 3 true cSeg (fun _ => rfl) (fun _ => rfl)
structure Region where
  At : UInt64
  Len : UInt64
deriving DecidableEq, Inhabited
def cRegion (x : Region) : List Value := [(vU64 x.At), (vU64 x.Len)]
def Qz : Shape Region := Shape.plain 2 true cRegion (fun _ => rfl) (fun _ => rfl)
structure Taken where
  ID : Int
  Count : Int
  Segs : List Seg
deriving DecidableEq, Inhabited
structure Pos where
  At : Int
  Wrap : Bool
deriving DecidableEq, Inhabited
def cPos (x : Pos) : List Value := [(vI x.At), (vB x.Wrap)]
def PosS : Shape Pos := Shape.plain 2 true cPos (fun _ => rfl) (fun _ => rfl)
structure Put where
  At : Int
  Desc : Desc
deriving DecidableEq, Inhabited
def cPut (x : Put) : List Value := [(vI x.At), (vU64 x.Desc.Addr), (vU32 x.Desc.Len), (vU16 x.Desc.Flags), (vU16 x.Desc.Next)]
def PutS : Shape Put := Shape.plain 5 true cPut (fun _ => rfl) (fun _ => rfl)
structure Packed where
  Addr : UInt64
  Len : UInt32
  ID : UInt16
  Flags : UInt16
deriving DecidableEq, Inhabited
def cPacked (x : Packed) : List Value := [(vU64 x.Addr), (vU32 x.Len), (vU16 x.ID), (vU16 x.Flags)]
def PackedS : Shape Packed := Shape.plain 4 true cPacked (fun _ => rfl) (fun _ => rfl)
structure PutPacked where
  At : Int
  Desc : Packed
deriving DecidableEq, Inhabited
def cPutPacked (x : PutPacked) : List Value := [(vI x.At), (vU64 x.Desc.Addr), (vU32 x.Desc.Len), (vU16 x.Desc.ID), (vU16 x.Desc.Flags)]
def QS : Shape PutPacked := Shape.plain 5 true cPutPacked (fun _ => rfl) (fun _ => rfl)
structure dumbwaiterlaw10_Spot where
  At : Int
  Split : Desc
  Packed : Packed
deriving DecidableEq, Inhabited
def cdumbwaiterlaw10_Spot (x : dumbwaiterlaw10_Spot) : List Value := [(vI x.At), (vU64 x.Split.Addr), (vU32 x.Split.Len), (vU16 x.Split.Flags), (vU16 x.Split.Next), (vU64 x.Packed.Addr), (vU32 x.Packed.Len), (vU16 x.Packed.ID), (vU16 x.Packed.Flags)]
def Xk : Shape dumbwaiterlaw10_Spot := Shape.plain 9 true cdumbwaiterlaw10_Spot (fun _ => rfl) (fun _ => rfl)
structure gmem_Mem where
  l : List Region
  b : List (List UInt8)
deriving DecidableEq, Inhabited
structure build_split where
  Desc : Desc
  next : Int
deriving DecidableEq, Inhabited
def cbuild_split (x : build_split) : List Value := [(vU64 x.Desc.Addr), (vU32 x.Desc.Len), (vU16 x.Desc.Flags), (vU16 x.Desc.Next), (vI x.next)]
def ZC : Shape build_split := Shape.plain 5 true cbuild_split (fun _ => rfl) (fun _ => rfl)
structure build_packed where
  Packed : Packed
  id : Int
  wrap : Bool
deriving DecidableEq, Inhabited
def cbuild_packed (x : build_packed) : List Value := [(vU64 x.Packed.Addr), (vU32 x.Packed.Len), (vU16 x.Packed.ID), (vU16 x.Packed.Flags), (vI x.id), (vB x.wrap)]
def Ze : Shape build_packed := Shape.plain 6 true cbuild_packed (fun _ => rfl) (fun _ => rfl)
structure dumbwaiterref02_Mem where
  L : List Region
  B : List (List UInt8)
deriving DecidableEq, Inhabited
end Go.Proofs.Ytlofegfaphijpaa
