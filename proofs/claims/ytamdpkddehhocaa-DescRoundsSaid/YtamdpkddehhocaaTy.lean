/- The types of the program, as they are read. No statement of the seat is proved here; no condition. -/
import Derived.Test.YtamdpkddehhocaaEng8
namespace Go.Proofs.Ytamdpkddehhocaa

structure Desc where
  Addr : UInt64
  Len : UInt32
  Flags : UInt16
  Next : UInt16
deriving DecidableEq, Inhabited
def cDesc (x : Desc) : List Value := [(vU64 x.Addr), (vU32 x.Len), (vU16 x.Flags), (vU16 x.Next)]
def DescS : Shape Desc := Shape.plain 4 true cDesc (fun _ => rfl) (fun _ => rfl)
end Go.Proofs.Ytamdpkddehhocaa
