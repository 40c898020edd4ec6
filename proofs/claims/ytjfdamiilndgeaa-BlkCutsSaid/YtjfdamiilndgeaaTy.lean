/- The types of the program, as they are read. No statement of the seat is proved here; no condition. -/
import Derived.Test.YtjfdamiilndgeaaGe2
namespace Go.Proofs.Ytjfdamiilndgeaa

structure Range where
  Sector : UInt64
  Count : UInt32
  Flags : UInt32
deriving DecidableEq, Inhabited
def cRange (x : Range) : List Value := [(vU64 x.Sector), (vU32 x.Count), (vU32 x.Flags)]
def RangeS : Shape Range := Shape.plain 3 true cRange (fun _ => rfl) (fun _ => rfl)
structure Req where
  Type_ : UInt32
  Sector : UInt64
  Data : List UInt8
  Room : Int
  Ranges : List Range
deriving DecidableEq, Inhabited
def cReq (x : Req) (v1 v2 : Value) : List Value := [(vU32 x.Type_), (vU64 x.Sector), (v1), (vI x.Room), (v2)]
def ReqS : Shape Req := Shape.s2 5 cReq u8S RangeS (fun x => x.Data) (fun x => x.Ranges) (fun _ _ _ => rfl) (fun _ _ _ h h2 => by simp only [cReq, List.all_cons, List.all_nil, h, h2]; rfl)
structure Seg where
  At : UInt64
  Len : UInt32
  Write : Bool
deriving DecidableEq, Inhabited
def cSeg (x : Seg) : List Value := [(vU64 x.At), (vU32 x.Len), (vB x.Write)]
def SegS : Shape Seg := Shape.plain 3 true cSeg (fun _ => rfl) (fun _ => rfl)
structure Region where
  At : UInt64
  Len : UInt64
deriving DecidableEq, Inhabited
def cRegion (x : Region) : List Value := [(vU64 x.At), (vU64 x.Len)]
def RegionS : Shape Region := Shape.plain 2 true cRegion (fun _ => rfl) (fun _ => rfl)
structure gmem_Mem where
  l : List Region
  b : List (List UInt8)
deriving DecidableEq, Inhabited
structure sectors_Store where
  l : List Sec
  fresh : List (Int × Sec)
deriving DecidableEq, Inhabited
structure blk_work where
  feats : UInt64
  name : List UInt8
  data : List UInt8
  at_ : UInt64
  room : UInt64
deriving DecidableEq, Inhabited
def tsectors_Store (x : sectors_Store) (y : Nat × List Value) : Res := Res.star (cellsR y.1 71 [vsAt y.2 0, vsAt y.2 1]) (Res.star (rowS secS (vsAt y.2 0) x.l) (mapRV .i64 (fun x : Int => x) vSec (vsAt y.2 1) x.fresh))
end Go.Proofs.Ytjfdamiilndgeaa
