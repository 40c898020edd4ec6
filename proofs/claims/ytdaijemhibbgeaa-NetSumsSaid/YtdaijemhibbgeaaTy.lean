/- The types of the program, as they are read. No statement of the seat is proved here; no condition. -/
import Derived.Test.YtdaijemhibbgeaaEng18
namespace Go.Proofs.Ytdaijemhibbgeaa

def a6UInt8C (x : A6 UInt8) : List Value := [vU8 x.a0, vU8 x.a1, vU8 x.a2, vU8 x.a3, vU8 x.a4, vU8 x.a5]
def a6UInt8S : Shape (A6 UInt8) := Shape.plain 6 true a6UInt8C (fun _ => rfl) (fun _ => rfl)
structure Frame where
  Dst : A6 UInt8
  Src : A6 UInt8
  Vlan : Int
  Type_ : UInt16
  Data : List UInt8
deriving DecidableEq, Inhabited
def cFrame (x : Frame) (v1 : Value) : List Value := [(vU8 x.Dst.a0), (vU8 x.Dst.a1), (vU8 x.Dst.a2), (vU8 x.Dst.a3), (vU8 x.Dst.a4), (vU8 x.Dst.a5), (vU8 x.Src.a0), (vU8 x.Src.a1), (vU8 x.Src.a2), (vU8 x.Src.a3), (vU8 x.Src.a4), (vU8 x.Src.a5), (vI x.Vlan), (vU16 x.Type_), (v1)]
def FrameS : Shape Frame := Shape.s1 15 cFrame u8S (fun x => x.Data) (fun _ _ => rfl) (fun _ _ h => by simp only [cFrame, List.all_cons, List.all_nil, h]; rfl)
structure Hdr where
  Flags : UInt8
  Start : UInt16
  Off : UInt16
  Buffers : UInt16
deriving DecidableEq, Inhabited
structure Seg where
  At : UInt64
  Len : UInt32
  Write : Bool
deriving DecidableEq, Inhabited
def cSeg (x : Seg) : List Value := [(vU64 x.At), (vU32 x.Len), (vB x.Write)]
def SegS : Shape Seg := Shape.plain 3 true cSeg (fun _ => rfl) (fun _ => rfl)
structure Region where
  At : UInt64
  Len : UInt64
deriving DecidableEq, Inhabited
def cRegion (x : Region) : List Value := [(vU64 x.At), (vU64 x.Len)]
def RegionS : Shape Region := Shape.plain 2 true cRegion (fun _ => rfl) (fun _ => rfl)
structure gmem_Mem where
  l : List Region
  b : List (List UInt8)
deriving DecidableEq, Inhabited
end Go.Proofs.Ytdaijemhibbgeaa
