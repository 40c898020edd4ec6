/- The types of the program, as they are read. No statement of the seat is proved here; no condition. -/
import Derived.Test.YtgcbcnpbnonnjaaEng19
namespace Go.Proofs.Ytgcbcnpbnonnjaa

structure Seg where
  At : UInt64
  Len : UInt32
  Write : Bool
deriving DecidableEq, Inhabited
def cSeg (x : Seg) : List Value := [(vU64 x.At), (vU32 x.Len), (vB x.Write)]
def SegS : Shape Seg := Shape.plain 3 true cSeg (fun _ => rfl) (fun _ => rfl)
def a6UInt8C (x : A6 UInt8) : List Value := [vU8 x.a0, vU8 x.a1, vU8 x.a2, vU8 x.a3, vU8 x.a4, vU8 x.a5]
def a6UInt8S : Shape (A6 UInt8) := Shape.plain 6 true a6UInt8C (fun _ => rfl) (fun _ => rfl)
structure Frame where
  Dst : A6 UInt8
  Src : A6 UInt8
  Vlan : Int
  Type_ : UInt16
  Data : List UInt8
deriving DecidableEq, Inhabited
def cFrame (x : Frame) (v1 : Value) : List Value := [(vU8 x.Dst.a0), (vU8 x.Dst.a1), (vU8 x.Dst.a2), (vU8 x.Dst.a3), (vU8 x.Dst.a4), (vU8 x.Dst.a5), (vU8 x.Src.a0), (vU8 x.Src.a1), (vU8 x.Src.a2), (vU8 x.Src.a3), (vU8 x.Src.a4), (vU8 x.Src.a5), (vI x.Vlan), (vU16 x.Type_), (v1)]
def QD : Shape Frame := Shape.s1 15 cFrame u8S (fun x => x.Data) (fun _ _ => rfl) (fun _ _ h => by simp only [cFrame, List.all_cons, List.all_nil, h]; rfl)
structure Region where
  At : UInt64
  Len : UInt64
deriving DecidableEq, Inhabited
def cRegion (x : Region) : List Value := [(vU64 x.At), (vU64 x.Len)]
def Qf : Shape Region := Shape.plain 2 true cRegion (fun _ => rfl) (fun _ => rfl)
structure gmem_Mem where
  l : List Region
  b : List (List UInt8)
deriving DecidableEq, Inhabited
structure dumbwaiterref02_Mem where
  L : List Region
  B : List (List UInt8)
deriving DecidableEq, Inhabited
structure Hdr where
  Flags : UInt8
  Start : UInt16
  Off : UInt16
  Buffers : UInt16
deriving DecidableEq, Inhabited
structure Clo66 where
  c0 : List (List Seg)
  c2 : List UInt32
deriving DecidableEq, Inhabited
def cl66 (b : Nat) (x : Clo66) (v : Value) : Fact := ⟨fun h => ∃ p0 p1 p2, v = .func (.func 66) #[] #[p0, p1, p2] ∧ (Fact.pt (Shape.slice (Shape.slice SegS)) p0 x.c0).p h ∧ (Fact.pt (ptrS b) p1 ()).p h ∧ (Fact.pt (Shape.slice u32S) p2 x.c2).p h, fun hl ⟨p0, p1, p2, e, h0, h1, h2⟩ => ⟨p0, p1, p2, e, Fact.mono _ hl h0, Fact.mono _ hl h1, Fact.mono _ hl h2⟩⟩
theorem cl66_in {b : Nat} {x : Clo66} {v : Value} : ∀ h, (cl66 b x v).p h → ∃ q : Value × Value × Value, v = .func (.func 66) #[] #[q.1, q.2.1, q.2.2] ∧ ∀ G ∈ [Fact.pt (Shape.slice (Shape.slice SegS)) q.1 x.c0, Fact.pt (ptrS b) q.2.1 (), Fact.pt (Shape.slice u32S) q.2.2 x.c2], G.p h := by
  rintro h ⟨p0, p1, p2, e, h0, h1, h2⟩
  refine ⟨⟨p0, p1, p2⟩, e, fun G hG => ?_⟩
  simp only [List.mem_cons, List.not_mem_nil, or_false] at hG
  rcases hG with hG | hG | hG <;> subst hG <;> assumption
end Go.Proofs.Ytgcbcnpbnonnjaa
