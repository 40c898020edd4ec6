/-
  No cell of these rows narrows 'for every input' (looked for: loops, veiled, ifaces, maps, wideKeys, modest, calm, conditions, laid).
  DERIVED. THE GIVEN ROWS OF THIS SEAT. 4 by the template 'for every input the law returns true; each argument reads behind the call as it read before'; 0 by the template 'total and deterministic' (their statements: YtjfdamiilndgeaaTotals.lean).
  GIVEN WITH THE SEED: the statements are not yours to turn. If you find one false, say at which input.
  Laid BY PROGRAM, IN A SANDBOX (cutbox-rows.mjs): the forced cells as the released guide's own fill.sh prints them over the translation 02553de498174fc5… (all of the seat's roots in one cut). By AI agents, Wed Nov 11 2026. No macro, syntax, notation, axiom, sorry.
-/
import Derived.Test.YtjfdamiilndgeaaChecked
import GoSem.Claim
import GoSem.ClaimJoined
import GoSem.ClaimMapViews
import Derived.JoinedTies
import Derived.KernelRfl
namespace Go.Proofs.Ytjfdamiilndgeaa
/- THE CELL 'sum', in the pinned program and in every row, IS THE sha256 OF THE DUMP (.gsa) THAT YtjfdamiilndgeaaProg.lean LOADS. Nothing in Lean hashes anything: it is a label: what it is worth is what the hold of that sum in a sandbox is worth. -/
noncomputable def Try.pinned : Pinned := { name := "ytjfdamiilndgeaa", sum := "02553de498174fc59e6431fdb0f50b7ba58b9d4434db3ca5cf68a3da20c6c47c", checked := Try.checked }
namespace Rows
def none {H : Type} : Left H := { results := [], args := [] }

/-- 'dumbwaiterlaw21.BlkNames': WHATEVER THE INPUT: true; the input reads as it did. -/
def blkNamesSpec : ChangeSpec := { name := "blkNames", fn := fun _ => fun
  | [] => { results := [.lit (.bool true)], args := [] }
  | _ => none }
def blkNamesRow : OpenClaim := { program := "ytjfdamiilndgeaa", sum := "02553de498174fc59e6431fdb0f50b7ba58b9d4434db3ca5cf68a3da20c6c47c", func := "dumbwaiter/dumbwaiterlaw21.BlkNames", spec := "blkNames", unfollowed := true, recurses := true, apart := false }
def BlkNamesSaid : Prop := blkNamesRow.holds Try.pinned (OpenSpec.ofChange blkNamesSpec)

/-- ITS FALSE NEIGHBOUR: 'it returns false'. Refute it at one input. -/
def blkNamesWrong : ChangeSpec := { name := "blkNames", fn := fun _ => fun
  | [] => { results := [.lit (.bool false)], args := [] }
  | _ => none }
def BlkNamesWrongFalsely : Prop := blkNamesRow.holds Try.pinned (OpenSpec.ofChange blkNamesWrong)

/-- 'dumbwaiterlaw21.BlkBack': WHATEVER THE INPUT: true; the input reads as it did. -/
def blkBackSpec : ChangeSpec := { name := "blkBack", fn := fun _ => fun
  | [d1, d2] => { results := [.lit (.bool true)], args := [d1, d2] }
  | _ => none }
def blkBackRow : OpenClaim := { program := "ytjfdamiilndgeaa", sum := "02553de498174fc59e6431fdb0f50b7ba58b9d4434db3ca5cf68a3da20c6c47c", func := "dumbwaiter/dumbwaiterlaw21.BlkBack", spec := "blkBack", unfollowed := true, recurses := true, apart := false }
def BlkBackSaid : Prop := blkBackRow.holds Try.pinned (OpenSpec.ofChange blkBackSpec)

/-- ITS FALSE NEIGHBOUR: 'it returns false'. Refute it at one input. -/
def blkBackWrong : ChangeSpec := { name := "blkBack", fn := fun _ => fun
  | [d1, d2] => { results := [.lit (.bool false)], args := [d1, d2] }
  | _ => none }
def BlkBackWrongFalsely : Prop := blkBackRow.holds Try.pinned (OpenSpec.ofChange blkBackWrong)

/-- 'dumbwaiterlaw21.BlkFails': WHATEVER THE INPUT: true; the input reads as it did. -/
def blkFailsSpec : ChangeSpec := { name := "blkFails", fn := fun _ => fun
  | [d1, d2, d3] => { results := [.lit (.bool true)], args := [d1, d2, d3] }
  | _ => none }
def blkFailsRow : OpenClaim := { program := "ytjfdamiilndgeaa", sum := "02553de498174fc59e6431fdb0f50b7ba58b9d4434db3ca5cf68a3da20c6c47c", func := "dumbwaiter/dumbwaiterlaw21.BlkFails", spec := "blkFails", unfollowed := true, recurses := true, apart := false }
def BlkFailsSaid : Prop := blkFailsRow.holds Try.pinned (OpenSpec.ofChange blkFailsSpec)

/-- ITS FALSE NEIGHBOUR: 'it returns false'. Refute it at one input. -/
def blkFailsWrong : ChangeSpec := { name := "blkFails", fn := fun _ => fun
  | [d1, d2, d3] => { results := [.lit (.bool false)], args := [d1, d2, d3] }
  | _ => none }
def BlkFailsWrongFalsely : Prop := blkFailsRow.holds Try.pinned (OpenSpec.ofChange blkFailsWrong)

/-- 'dumbwaiterlaw21.BlkCuts': WHATEVER THE INPUT: true; the input reads as it did. -/
def blkCutsSpec : ChangeSpec := { name := "blkCuts", fn := fun _ => fun
  | [d1, d2, d3, d4] => { results := [.lit (.bool true)], args := [d1, d2, d3, d4] }
  | _ => none }
def blkCutsRow : OpenClaim := { program := "ytjfdamiilndgeaa", sum := "02553de498174fc59e6431fdb0f50b7ba58b9d4434db3ca5cf68a3da20c6c47c", func := "dumbwaiter/dumbwaiterlaw21.BlkCuts", spec := "blkCuts", unfollowed := true, recurses := true, apart := false }
def BlkCutsSaid : Prop := blkCutsRow.holds Try.pinned (OpenSpec.ofChange blkCutsSpec)

/-- ITS FALSE NEIGHBOUR: 'it returns false'. Refute it at one input. -/
def blkCutsWrong : ChangeSpec := { name := "blkCuts", fn := fun _ => fun
  | [d1, d2, d3, d4] => { results := [.lit (.bool false)], args := [d1, d2, d3, d4] }
  | _ => none }
def BlkCutsWrongFalsely : Prop := blkCutsRow.holds Try.pinned (OpenSpec.ofChange blkCutsWrong)

/- THE SECOND FORM. 'bulk': how many values and letters a reading holds, each counted each time it is reached (what is shared counts as often as it is met; a slice's spare places count too). A statement '..UptoSaid' is the law's where the arguments, and the package variables that the reading takes, are together of bulk at most 1048576: NARROWER than '..Said'. Prove '..Said' where nothing that the law and all that it calls make is longer than what came in: it says more and counts as full. Else prove '..UptoSaid'. A law counts once. -/
mutual
def uptoBulk {H : Type} : DataW H → Nat
  | .lit (.string bytes) => bytes.length + 1
  | .lit _ => 1
  | .nil => 1
  | .ptr d => uptoBulk d + 1
  | .slice elems spare => uptoBulkAll elems + uptoBulkAll spare + 1
  | .agg parts => uptoBulkAll parts + 1
  | .iface _ d => uptoBulk d + 1
  | .map entries => uptoBulkEntries entries + 1
  | .held _ => 1
def uptoBulkAll {H : Type} : List (DataW H) → Nat
  | [] => 0
  | d :: r => uptoBulk d + uptoBulkAll r
def uptoBulkEntries {H : Type} : List (Lit × DataW H) → Nat
  | [] => 0
  | x :: r => uptoBulkEntry x + uptoBulkEntries r
def uptoBulkEntry {H : Type} : Lit × DataW H → Nat
  | (.string bytes, d) => bytes.length + uptoBulk d + 1
  | (_, d) => uptoBulk d + 1
 end
def uptoSmall : (H : Type) → List (DataW H) → Bool := fun _ ds => decide (uptoBulkAll ds ≤ 1048576)
def OpenSpec.upto (s : _root_.Go.ChangeSpec) : _root_.Go.OpenSpec := { _root_.Go.OpenSpec.ofChange s with cond := some uptoSmall }

/-- 'dumbwaiterlaw21.BlkNames', WHERE WHAT IT READS IS OF BULK AT MOST 1048576: true; the input reads as it did. -/
def blkNamesUptoRow : OpenClaim := { program := "ytjfdamiilndgeaa", sum := "02553de498174fc59e6431fdb0f50b7ba58b9d4434db3ca5cf68a3da20c6c47c", func := "dumbwaiter/dumbwaiterlaw21.BlkNames", spec := "blkNames", unfollowed := true, recurses := true, apart := false, narrowed := true }
def BlkNamesUptoSaid : Prop := blkNamesUptoRow.holds Try.pinned (OpenSpec.upto blkNamesSpec)

/-- 'dumbwaiterlaw21.BlkBack', WHERE WHAT IT READS IS OF BULK AT MOST 1048576: true; the input reads as it did. -/
def blkBackUptoRow : OpenClaim := { program := "ytjfdamiilndgeaa", sum := "02553de498174fc59e6431fdb0f50b7ba58b9d4434db3ca5cf68a3da20c6c47c", func := "dumbwaiter/dumbwaiterlaw21.BlkBack", spec := "blkBack", unfollowed := true, recurses := true, apart := false, narrowed := true }
def BlkBackUptoSaid : Prop := blkBackUptoRow.holds Try.pinned (OpenSpec.upto blkBackSpec)

/-- 'dumbwaiterlaw21.BlkFails', WHERE WHAT IT READS IS OF BULK AT MOST 1048576: true; the input reads as it did. -/
def blkFailsUptoRow : OpenClaim := { program := "ytjfdamiilndgeaa", sum := "02553de498174fc59e6431fdb0f50b7ba58b9d4434db3ca5cf68a3da20c6c47c", func := "dumbwaiter/dumbwaiterlaw21.BlkFails", spec := "blkFails", unfollowed := true, recurses := true, apart := false, narrowed := true }
def BlkFailsUptoSaid : Prop := blkFailsUptoRow.holds Try.pinned (OpenSpec.upto blkFailsSpec)

/-- 'dumbwaiterlaw21.BlkCuts', WHERE WHAT IT READS IS OF BULK AT MOST 1048576: true; the input reads as it did. -/
def blkCutsUptoRow : OpenClaim := { program := "ytjfdamiilndgeaa", sum := "02553de498174fc59e6431fdb0f50b7ba58b9d4434db3ca5cf68a3da20c6c47c", func := "dumbwaiter/dumbwaiterlaw21.BlkCuts", spec := "blkCuts", unfollowed := true, recurses := true, apart := false, narrowed := true }
def BlkCutsUptoSaid : Prop := blkCutsUptoRow.holds Try.pinned (OpenSpec.upto blkCutsSpec)

end Rows
end Go.Proofs.Ytjfdamiilndgeaa
