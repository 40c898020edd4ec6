/- The types of the program, as they are read. No statement of the seat is proved here; no condition. -/
import Derived.Test.YtamdpkddehhocaaEng10
namespace Go.Proofs.Ytamdpkddehhocaa

structure Desc where
  Addr : UInt64
  Len : UInt32
  Flags : UInt16
  Next : UInt16
deriving DecidableEq, Inhabited
def cDesc (x : Desc) : List Value := [(vU64 x.Addr), (vU32 x.Len), (vU16 x.Flags), (vU16 x.Next)]
def DescS : Shape Desc := Shape.plain 4 true cDesc (fun _ => rfl) (fun _ => rfl)
structure Packed where
  Addr : UInt64
  Len : UInt32
  ID : UInt16
  Flags : UInt16
deriving DecidableEq, Inhabited
def cPacked (x : Packed) : List Value := [(vU64 x.Addr), (vU32 x.Len), (vU16 x.ID), (vU16 x.Flags)]
def PackedS : Shape Packed := Shape.plain 4 true cPacked (fun _ => rfl) (fun _ => rfl)
structure Used where
  ID : UInt32
  Len : UInt32
deriving DecidableEq, Inhabited
def cUsed (x : Used) : List Value := [(vU32 x.ID), (vU32 x.Len)]
def UsedS : Shape Used := Shape.plain 2 true cUsed (fun _ => rfl) (fun _ => rfl)
structure Event where
  Off : UInt16
  Flags : UInt16
deriving DecidableEq, Inhabited
def cEvent (x : Event) : List Value := [(vU16 x.Off), (vU16 x.Flags)]
def EventS : Shape Event := Shape.plain 2 true cEvent (fun _ => rfl) (fun _ => rfl)
end Go.Proofs.Ytamdpkddehhocaa
