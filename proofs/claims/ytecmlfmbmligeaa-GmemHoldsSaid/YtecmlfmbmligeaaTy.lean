/- The types of the program, as they are read. No statement of the seat is proved here; no condition. -/
import Derived.Test.YtecmlfmbmligeaaEng17
namespace Go.Proofs.Ytecmlfmbmligeaa

structure Region where
  At : UInt64
  Len : UInt64
deriving DecidableEq, Inhabited
def cRegion (x : Region) : List Value := [(vU64 x.At), (vU64 x.Len)]
def RegionS : Shape Region := Shape.plain 2 true cRegion (fun _ => rfl) (fun _ => rfl)
structure dumbwaiterlaw02_Act where
  Kind : Int
  At : UInt64
  N : Int
  V : UInt64
  B : List UInt8
deriving DecidableEq, Inhabited
def cdumbwaiterlaw02_Act (x : dumbwaiterlaw02_Act) (v1 : Value) : List Value := [(vI x.Kind), (vU64 x.At), (vI x.N), (vU64 x.V), (v1)]
def dumbwaiterlaw02_ActS : Shape dumbwaiterlaw02_Act := Shape.s1 5 cdumbwaiterlaw02_Act u8S (fun x => x.B) (fun _ _ => rfl) (fun _ _ h => by simp only [cdumbwaiterlaw02_Act, List.all_cons, List.all_nil, h]; rfl)
structure gmem_Mem where
  l : List Region
  b : List (List UInt8)
deriving DecidableEq, Inhabited
end Go.Proofs.Ytecmlfmbmligeaa
