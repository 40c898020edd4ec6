/-
  No cell of these rows narrows 'for every input' (looked for: loops, veiled, ifaces, maps, wideKeys, modest, calm, conditions, laid).
  DERIVED. THE GIVEN ROWS OF THIS SEAT. 5 by the template 'for every input the law returns true; each argument reads behind the call as it read before'; 0 by the template 'total and deterministic' (their statements: YtkmjpgfbcklopaaTotals.lean).
  GIVEN WITH THE SEED: the statements are not yours to turn. If you find one false, say at which input.
  Laid BY PROGRAM, IN A SANDBOX (cutbox-rows.mjs): the forced cells as the released guide's own fill.sh prints them over the translation 6ca84f0309a7de10… (all of the seat's roots in one cut). By AI agents, Wed Nov 11 2026. No macro, syntax, notation, axiom, sorry.
-/
import Derived.Test.YtkmjpgfbcklopaaChecked
import GoSem.Claim
import GoSem.ClaimJoined
import GoSem.ClaimMapViews
import Derived.JoinedTies
import Derived.KernelRfl
namespace Go.Proofs.Ytkmjpgfbcklopaa
/- THE CELL 'sum', in the pinned program and in every row, IS THE sha256 OF THE DUMP (.gsa) THAT YtkmjpgfbcklopaaProg.lean LOADS. Nothing in Lean hashes anything: it is a label: what it is worth is what the hold of that sum in a sandbox is worth. -/
noncomputable def Try.pinned : Pinned := { name := "ytkmjpgfbcklopaa", sum := "6ca84f0309a7de100a57173ee3dee61fdb426a9924459f7d4cf426789e5a5c74", checked := Try.checked }
namespace Rows
def none {H : Type} : Left H := { results := [], args := [] }

/-- 'dumbwaiterlaw22.BlkdrvCuts': WHATEVER THE INPUT: true; the input reads as it did. -/
def blkdrvCutsSpec : ChangeSpec := { name := "blkdrvCuts", fn := fun _ => fun
  | [d1, d2] => { results := [.lit (.bool true)], args := [d1, d2] }
  | _ => none }
def blkdrvCutsRow : OpenClaim := { program := "ytkmjpgfbcklopaa", sum := "6ca84f0309a7de100a57173ee3dee61fdb426a9924459f7d4cf426789e5a5c74", func := "dumbwaiter/dumbwaiterlaw22.BlkdrvCuts", spec := "blkdrvCuts", unfollowed := true, recurses := true, apart := false }
def BlkdrvCutsSaid : Prop := blkdrvCutsRow.holds Try.pinned (OpenSpec.ofChange blkdrvCutsSpec)

/-- ITS FALSE NEIGHBOUR: 'it returns false'. Refute it at one input. -/
def blkdrvCutsWrong : ChangeSpec := { name := "blkdrvCuts", fn := fun _ => fun
  | [d1, d2] => { results := [.lit (.bool false)], args := [d1, d2] }
  | _ => none }
def BlkdrvCutsWrongFalsely : Prop := blkdrvCutsRow.holds Try.pinned (OpenSpec.ofChange blkdrvCutsWrong)

/-- 'dumbwaiterlaw22.BlkdrvRooms': WHATEVER THE INPUT: true; the input reads as it did. -/
def blkdrvRoomsSpec : ChangeSpec := { name := "blkdrvRooms", fn := fun _ => fun
  | [d1, d2, d3, d4] => { results := [.lit (.bool true)], args := [d1, d2, d3, d4] }
  | _ => none }
def blkdrvRoomsRow : OpenClaim := { program := "ytkmjpgfbcklopaa", sum := "6ca84f0309a7de100a57173ee3dee61fdb426a9924459f7d4cf426789e5a5c74", func := "dumbwaiter/dumbwaiterlaw22.BlkdrvRooms", spec := "blkdrvRooms", unfollowed := true, recurses := true, apart := false }
def BlkdrvRoomsSaid : Prop := blkdrvRoomsRow.holds Try.pinned (OpenSpec.ofChange blkdrvRoomsSpec)

/-- ITS FALSE NEIGHBOUR: 'it returns false'. Refute it at one input. -/
def blkdrvRoomsWrong : ChangeSpec := { name := "blkdrvRooms", fn := fun _ => fun
  | [d1, d2, d3, d4] => { results := [.lit (.bool false)], args := [d1, d2, d3, d4] }
  | _ => none }
def BlkdrvRoomsWrongFalsely : Prop := blkdrvRoomsRow.holds Try.pinned (OpenSpec.ofChange blkdrvRoomsWrong)

/-- 'dumbwaiterlaw22.BlkdrvNames': WHATEVER THE INPUT: true; the input reads as it did. -/
def blkdrvNamesSpec : ChangeSpec := { name := "blkdrvNames", fn := fun _ => fun
  | [] => { results := [.lit (.bool true)], args := [] }
  | _ => none }
def blkdrvNamesRow : OpenClaim := { program := "ytkmjpgfbcklopaa", sum := "6ca84f0309a7de100a57173ee3dee61fdb426a9924459f7d4cf426789e5a5c74", func := "dumbwaiter/dumbwaiterlaw22.BlkdrvNames", spec := "blkdrvNames", unfollowed := true, recurses := true, apart := false }
def BlkdrvNamesSaid : Prop := blkdrvNamesRow.holds Try.pinned (OpenSpec.ofChange blkdrvNamesSpec)

/-- ITS FALSE NEIGHBOUR: 'it returns false'. Refute it at one input. -/
def blkdrvNamesWrong : ChangeSpec := { name := "blkdrvNames", fn := fun _ => fun
  | [] => { results := [.lit (.bool false)], args := [] }
  | _ => none }
def BlkdrvNamesWrongFalsely : Prop := blkdrvNamesRow.holds Try.pinned (OpenSpec.ofChange blkdrvNamesWrong)

/-- 'dumbwaiterlaw22.BlkdrvCalls': WHATEVER THE INPUT: true; the input reads as it did. -/
def blkdrvCallsSpec : ChangeSpec := { name := "blkdrvCalls", fn := fun _ => fun
  | [d1, d2, d3, d4, d5, d6, d7] => { results := [.lit (.bool true)], args := [d1, d2, d3, d4, d5, d6, d7] }
  | _ => none }
def blkdrvCallsRow : OpenClaim := { program := "ytkmjpgfbcklopaa", sum := "6ca84f0309a7de100a57173ee3dee61fdb426a9924459f7d4cf426789e5a5c74", func := "dumbwaiter/dumbwaiterlaw22.BlkdrvCalls", spec := "blkdrvCalls", unfollowed := true, recurses := true, apart := false }
def BlkdrvCallsSaid : Prop := blkdrvCallsRow.holds Try.pinned (OpenSpec.ofChange blkdrvCallsSpec)

/-- ITS FALSE NEIGHBOUR: 'it returns false'. Refute it at one input. -/
def blkdrvCallsWrong : ChangeSpec := { name := "blkdrvCalls", fn := fun _ => fun
  | [d1, d2, d3, d4, d5, d6, d7] => { results := [.lit (.bool false)], args := [d1, d2, d3, d4, d5, d6, d7] }
  | _ => none }
def BlkdrvCallsWrongFalsely : Prop := blkdrvCallsRow.holds Try.pinned (OpenSpec.ofChange blkdrvCallsWrong)

/-- 'dumbwaiterlaw22.BlkdrvBack': WHATEVER THE INPUT: true; the input reads as it did. -/
def blkdrvBackSpec : ChangeSpec := { name := "blkdrvBack", fn := fun _ => fun
  | [d1, d2, d3, d4, d5] => { results := [.lit (.bool true)], args := [d1, d2, d3, d4, d5] }
  | _ => none }
def blkdrvBackRow : OpenClaim := { program := "ytkmjpgfbcklopaa", sum := "6ca84f0309a7de100a57173ee3dee61fdb426a9924459f7d4cf426789e5a5c74", func := "dumbwaiter/dumbwaiterlaw22.BlkdrvBack", spec := "blkdrvBack", unfollowed := true, recurses := true, apart := false }
def BlkdrvBackSaid : Prop := blkdrvBackRow.holds Try.pinned (OpenSpec.ofChange blkdrvBackSpec)

/-- ITS FALSE NEIGHBOUR: 'it returns false'. Refute it at one input. -/
def blkdrvBackWrong : ChangeSpec := { name := "blkdrvBack", fn := fun _ => fun
  | [d1, d2, d3, d4, d5] => { results := [.lit (.bool false)], args := [d1, d2, d3, d4, d5] }
  | _ => none }
def BlkdrvBackWrongFalsely : Prop := blkdrvBackRow.holds Try.pinned (OpenSpec.ofChange blkdrvBackWrong)

/- THE SECOND FORM. 'bulk': how many values and letters a reading holds, each counted each time it is reached (what is shared counts as often as it is met; a slice's spare places count too). A statement '..UptoSaid' is the law's where the arguments, and the package variables that the reading takes, are together of bulk at most 1048576: NARROWER than '..Said'. Prove '..Said' where nothing that the law and all that it calls make is longer than what came in: it says more and counts as full. Else prove '..UptoSaid'. A law counts once. -/
mutual
def uptoBulk {H : Type} : DataW H → Nat
  | .lit (.string bytes) => bytes.length + 1
  | .lit _ => 1
  | .nil => 1
  | .ptr d => uptoBulk d + 1
  | .slice elems spare => uptoBulkAll elems + uptoBulkAll spare + 1
  | .agg parts => uptoBulkAll parts + 1
  | .iface _ d => uptoBulk d + 1
  | .map entries => uptoBulkEntries entries + 1
  | .held _ => 1
def uptoBulkAll {H : Type} : List (DataW H) → Nat
  | [] => 0
  | d :: r => uptoBulk d + uptoBulkAll r
def uptoBulkEntries {H : Type} : List (Lit × DataW H) → Nat
  | [] => 0
  | x :: r => uptoBulkEntry x + uptoBulkEntries r
def uptoBulkEntry {H : Type} : Lit × DataW H → Nat
  | (.string bytes, d) => bytes.length + uptoBulk d + 1
  | (_, d) => uptoBulk d + 1
 end
def uptoSmall : (H : Type) → List (DataW H) → Bool := fun _ ds => decide (uptoBulkAll ds ≤ 1048576)
def OpenSpec.upto (s : _root_.Go.ChangeSpec) : _root_.Go.OpenSpec := { _root_.Go.OpenSpec.ofChange s with cond := some uptoSmall }

/-- 'dumbwaiterlaw22.BlkdrvCuts', WHERE WHAT IT READS IS OF BULK AT MOST 1048576: true; the input reads as it did. -/
def blkdrvCutsUptoRow : OpenClaim := { program := "ytkmjpgfbcklopaa", sum := "6ca84f0309a7de100a57173ee3dee61fdb426a9924459f7d4cf426789e5a5c74", func := "dumbwaiter/dumbwaiterlaw22.BlkdrvCuts", spec := "blkdrvCuts", unfollowed := true, recurses := true, apart := false, narrowed := true }
def BlkdrvCutsUptoSaid : Prop := blkdrvCutsUptoRow.holds Try.pinned (OpenSpec.upto blkdrvCutsSpec)

/-- 'dumbwaiterlaw22.BlkdrvRooms', WHERE WHAT IT READS IS OF BULK AT MOST 1048576: true; the input reads as it did. -/
def blkdrvRoomsUptoRow : OpenClaim := { program := "ytkmjpgfbcklopaa", sum := "6ca84f0309a7de100a57173ee3dee61fdb426a9924459f7d4cf426789e5a5c74", func := "dumbwaiter/dumbwaiterlaw22.BlkdrvRooms", spec := "blkdrvRooms", unfollowed := true, recurses := true, apart := false, narrowed := true }
def BlkdrvRoomsUptoSaid : Prop := blkdrvRoomsUptoRow.holds Try.pinned (OpenSpec.upto blkdrvRoomsSpec)

/-- 'dumbwaiterlaw22.BlkdrvNames', WHERE WHAT IT READS IS OF BULK AT MOST 1048576: true; the input reads as it did. -/
def blkdrvNamesUptoRow : OpenClaim := { program := "ytkmjpgfbcklopaa", sum := "6ca84f0309a7de100a57173ee3dee61fdb426a9924459f7d4cf426789e5a5c74", func := "dumbwaiter/dumbwaiterlaw22.BlkdrvNames", spec := "blkdrvNames", unfollowed := true, recurses := true, apart := false, narrowed := true }
def BlkdrvNamesUptoSaid : Prop := blkdrvNamesUptoRow.holds Try.pinned (OpenSpec.upto blkdrvNamesSpec)

/-- 'dumbwaiterlaw22.BlkdrvCalls', WHERE WHAT IT READS IS OF BULK AT MOST 1048576: true; the input reads as it did. -/
def blkdrvCallsUptoRow : OpenClaim := { program := "ytkmjpgfbcklopaa", sum := "6ca84f0309a7de100a57173ee3dee61fdb426a9924459f7d4cf426789e5a5c74", func := "dumbwaiter/dumbwaiterlaw22.BlkdrvCalls", spec := "blkdrvCalls", unfollowed := true, recurses := true, apart := false, narrowed := true }
def BlkdrvCallsUptoSaid : Prop := blkdrvCallsUptoRow.holds Try.pinned (OpenSpec.upto blkdrvCallsSpec)

/-- 'dumbwaiterlaw22.BlkdrvBack', WHERE WHAT IT READS IS OF BULK AT MOST 1048576: true; the input reads as it did. -/
def blkdrvBackUptoRow : OpenClaim := { program := "ytkmjpgfbcklopaa", sum := "6ca84f0309a7de100a57173ee3dee61fdb426a9924459f7d4cf426789e5a5c74", func := "dumbwaiter/dumbwaiterlaw22.BlkdrvBack", spec := "blkdrvBack", unfollowed := true, recurses := true, apart := false, narrowed := true }
def BlkdrvBackUptoSaid : Prop := blkdrvBackUptoRow.holds Try.pinned (OpenSpec.upto blkdrvBackSpec)

end Rows
end Go.Proofs.Ytkmjpgfbcklopaa
