/-
  No cell of these rows narrows 'for every input' (looked for: loops, veiled, ifaces, maps, wideKeys, modest, calm, conditions, laid).
  DERIVED. THE GIVEN ROWS OF THIS SEAT. 5 by the template 'for every input the law returns true; each argument reads behind the call as it read before'; 0 by the template 'total and deterministic' (their statements: YtkjmmbmlapmkbaaTotals.lean).
  GIVEN WITH THE SEED: the statements are not yours to turn. If you find one false, say at which input.
  Laid BY PROGRAM, IN A SANDBOX (cutbox-rows.mjs): the forced cells as the released guide's own fill.sh prints them over the translation de52d5d05c113424… (all of the seat's roots in one cut). By AI agents, Wed Nov 11 2026. No macro, syntax, notation, axiom, sorry.
-/
import Derived.Test.YtkjmmbmlapmkbaaChecked
import GoSem.Claim
import GoSem.ClaimJoined
import GoSem.ClaimMapViews
import Derived.JoinedTies
import Derived.KernelRfl
namespace Go.Proofs.Ytkjmmbmlapmkbaa
/- THE CELL 'sum', in the pinned program and in every row, IS THE sha256 OF THE DUMP (.gsa) THAT YtkjmmbmlapmkbaaProg.lean LOADS. Nothing in Lean hashes anything: it is a label: what it is worth is what the hold of that sum in a sandbox is worth. -/
noncomputable def Try.pinned : Pinned := { name := "ytkjmmbmlapmkbaa", sum := "de52d5d05c11342463aed8bc3e3293600cdcc16fa060797432778dcc45210f97", checked := Try.checked }
namespace Rows
def none {H : Type} : Left H := { results := [], args := [] }

/-- 'dumbwaiterlaw28.ConsQueues': WHATEVER THE INPUT: true; the input reads as it did. -/
def consQueuesSpec : ChangeSpec := { name := "consQueues", fn := fun _ => fun
  | [d1, d2, d3] => { results := [.lit (.bool true)], args := [d1, d2, d3] }
  | _ => none }
def consQueuesRow : OpenClaim := { program := "ytkjmmbmlapmkbaa", sum := "de52d5d05c11342463aed8bc3e3293600cdcc16fa060797432778dcc45210f97", func := "dumbwaiter/dumbwaiterlaw28.ConsQueues", spec := "consQueues", unfollowed := true, recurses := true, apart := false }
def ConsQueuesSaid : Prop := consQueuesRow.holds Try.pinned (OpenSpec.ofChange consQueuesSpec)

/-- ITS FALSE NEIGHBOUR: 'it returns false'. Refute it at one input. -/
def consQueuesWrong : ChangeSpec := { name := "consQueues", fn := fun _ => fun
  | [d1, d2, d3] => { results := [.lit (.bool false)], args := [d1, d2, d3] }
  | _ => none }
def ConsQueuesWrongFalsely : Prop := consQueuesRow.holds Try.pinned (OpenSpec.ofChange consQueuesWrong)

/-- 'dumbwaiterlaw28.ConsGives': WHATEVER THE INPUT: true; the input reads as it did. -/
def consGivesSpec : ChangeSpec := { name := "consGives", fn := fun _ => fun
  | [d1, d2, d3] => { results := [.lit (.bool true)], args := [d1, d2, d3] }
  | _ => none }
def consGivesRow : OpenClaim := { program := "ytkjmmbmlapmkbaa", sum := "de52d5d05c11342463aed8bc3e3293600cdcc16fa060797432778dcc45210f97", func := "dumbwaiter/dumbwaiterlaw28.ConsGives", spec := "consGives", unfollowed := true, recurses := true, apart := false }
def ConsGivesSaid : Prop := consGivesRow.holds Try.pinned (OpenSpec.ofChange consGivesSpec)

/-- ITS FALSE NEIGHBOUR: 'it returns false'. Refute it at one input. -/
def consGivesWrong : ChangeSpec := { name := "consGives", fn := fun _ => fun
  | [d1, d2, d3] => { results := [.lit (.bool false)], args := [d1, d2, d3] }
  | _ => none }
def ConsGivesWrongFalsely : Prop := consGivesRow.holds Try.pinned (OpenSpec.ofChange consGivesWrong)

/-- 'dumbwaiterlaw28.ConsWaits': WHATEVER THE INPUT: true; the input reads as it did. -/
def consWaitsSpec : ChangeSpec := { name := "consWaits", fn := fun _ => fun
  | [d1, d2, d3] => { results := [.lit (.bool true)], args := [d1, d2, d3] }
  | _ => none }
def consWaitsRow : OpenClaim := { program := "ytkjmmbmlapmkbaa", sum := "de52d5d05c11342463aed8bc3e3293600cdcc16fa060797432778dcc45210f97", func := "dumbwaiter/dumbwaiterlaw28.ConsWaits", spec := "consWaits", unfollowed := true, recurses := true, apart := false }
def ConsWaitsSaid : Prop := consWaitsRow.holds Try.pinned (OpenSpec.ofChange consWaitsSpec)

/-- ITS FALSE NEIGHBOUR: 'it returns false'. Refute it at one input. -/
def consWaitsWrong : ChangeSpec := { name := "consWaits", fn := fun _ => fun
  | [d1, d2, d3] => { results := [.lit (.bool false)], args := [d1, d2, d3] }
  | _ => none }
def ConsWaitsWrongFalsely : Prop := consWaitsRow.holds Try.pinned (OpenSpec.ofChange consWaitsWrong)

/-- 'dumbwaiterlaw28.ConsStreams': WHATEVER THE INPUT: true; the input reads as it did. -/
def consStreamsSpec : ChangeSpec := { name := "consStreams", fn := fun _ => fun
  | [d1, d2] => { results := [.lit (.bool true)], args := [d1, d2] }
  | _ => none }
def consStreamsRow : OpenClaim := { program := "ytkjmmbmlapmkbaa", sum := "de52d5d05c11342463aed8bc3e3293600cdcc16fa060797432778dcc45210f97", func := "dumbwaiter/dumbwaiterlaw28.ConsStreams", spec := "consStreams", unfollowed := true, recurses := true, apart := false }
def ConsStreamsSaid : Prop := consStreamsRow.holds Try.pinned (OpenSpec.ofChange consStreamsSpec)

/-- ITS FALSE NEIGHBOUR: 'it returns false'. Refute it at one input. -/
def consStreamsWrong : ChangeSpec := { name := "consStreams", fn := fun _ => fun
  | [d1, d2] => { results := [.lit (.bool false)], args := [d1, d2] }
  | _ => none }
def ConsStreamsWrongFalsely : Prop := consStreamsRow.holds Try.pinned (OpenSpec.ofChange consStreamsWrong)

/-- 'dumbwaiterlaw28.ConsNames': WHATEVER THE INPUT: true; the input reads as it did. -/
def consNamesSpec : ChangeSpec := { name := "consNames", fn := fun _ => fun
  | [] => { results := [.lit (.bool true)], args := [] }
  | _ => none }
def consNamesRow : OpenClaim := { program := "ytkjmmbmlapmkbaa", sum := "de52d5d05c11342463aed8bc3e3293600cdcc16fa060797432778dcc45210f97", func := "dumbwaiter/dumbwaiterlaw28.ConsNames", spec := "consNames", unfollowed := true, recurses := true, apart := false }
def ConsNamesSaid : Prop := consNamesRow.holds Try.pinned (OpenSpec.ofChange consNamesSpec)

/-- ITS FALSE NEIGHBOUR: 'it returns false'. Refute it at one input. -/
def consNamesWrong : ChangeSpec := { name := "consNames", fn := fun _ => fun
  | [] => { results := [.lit (.bool false)], args := [] }
  | _ => none }
def ConsNamesWrongFalsely : Prop := consNamesRow.holds Try.pinned (OpenSpec.ofChange consNamesWrong)

/- THE SECOND FORM. 'bulk': how many values and letters a reading holds, each counted each time it is reached (what is shared counts as often as it is met; a slice's spare places count too). A statement '..UptoSaid' is the law's where the arguments, and the package variables that the reading takes, are together of bulk at most 1048576: NARROWER than '..Said'. Prove '..Said' where nothing that the law and all that it calls make is longer than what came in: it says more and counts as full. Else prove '..UptoSaid'. A law counts once. -/
mutual
def uptoBulk {H : Type} : DataW H → Nat
  | .lit (.string bytes) => bytes.length + 1
  | .lit _ => 1
  | .nil => 1
  | .ptr d => uptoBulk d + 1
  | .slice elems spare => uptoBulkAll elems + uptoBulkAll spare + 1
  | .agg parts => uptoBulkAll parts + 1
  | .iface _ d => uptoBulk d + 1
  | .map entries => uptoBulkEntries entries + 1
  | .held _ => 1
def uptoBulkAll {H : Type} : List (DataW H) → Nat
  | [] => 0
  | d :: r => uptoBulk d + uptoBulkAll r
def uptoBulkEntries {H : Type} : List (Lit × DataW H) → Nat
  | [] => 0
  | x :: r => uptoBulkEntry x + uptoBulkEntries r
def uptoBulkEntry {H : Type} : Lit × DataW H → Nat
  | (.string bytes, d) => bytes.length + uptoBulk d + 1
  | (_, d) => uptoBulk d + 1
 end
def uptoSmall : (H : Type) → List (DataW H) → Bool := fun _ ds => decide (uptoBulkAll ds ≤ 1048576)
def OpenSpec.upto (s : _root_.Go.ChangeSpec) : _root_.Go.OpenSpec := { _root_.Go.OpenSpec.ofChange s with cond := some uptoSmall }

/-- 'dumbwaiterlaw28.ConsQueues', WHERE WHAT IT READS IS OF BULK AT MOST 1048576: true; the input reads as it did. -/
def consQueuesUptoRow : OpenClaim := { program := "ytkjmmbmlapmkbaa", sum := "de52d5d05c11342463aed8bc3e3293600cdcc16fa060797432778dcc45210f97", func := "dumbwaiter/dumbwaiterlaw28.ConsQueues", spec := "consQueues", unfollowed := true, recurses := true, apart := false, narrowed := true }
def ConsQueuesUptoSaid : Prop := consQueuesUptoRow.holds Try.pinned (OpenSpec.upto consQueuesSpec)

/-- 'dumbwaiterlaw28.ConsGives', WHERE WHAT IT READS IS OF BULK AT MOST 1048576: true; the input reads as it did. -/
def consGivesUptoRow : OpenClaim := { program := "ytkjmmbmlapmkbaa", sum := "de52d5d05c11342463aed8bc3e3293600cdcc16fa060797432778dcc45210f97", func := "dumbwaiter/dumbwaiterlaw28.ConsGives", spec := "consGives", unfollowed := true, recurses := true, apart := false, narrowed := true }
def ConsGivesUptoSaid : Prop := consGivesUptoRow.holds Try.pinned (OpenSpec.upto consGivesSpec)

/-- 'dumbwaiterlaw28.ConsWaits', WHERE WHAT IT READS IS OF BULK AT MOST 1048576: true; the input reads as it did. -/
def consWaitsUptoRow : OpenClaim := { program := "ytkjmmbmlapmkbaa", sum := "de52d5d05c11342463aed8bc3e3293600cdcc16fa060797432778dcc45210f97", func := "dumbwaiter/dumbwaiterlaw28.ConsWaits", spec := "consWaits", unfollowed := true, recurses := true, apart := false, narrowed := true }
def ConsWaitsUptoSaid : Prop := consWaitsUptoRow.holds Try.pinned (OpenSpec.upto consWaitsSpec)

/-- 'dumbwaiterlaw28.ConsStreams', WHERE WHAT IT READS IS OF BULK AT MOST 1048576: true; the input reads as it did. -/
def consStreamsUptoRow : OpenClaim := { program := "ytkjmmbmlapmkbaa", sum := "de52d5d05c11342463aed8bc3e3293600cdcc16fa060797432778dcc45210f97", func := "dumbwaiter/dumbwaiterlaw28.ConsStreams", spec := "consStreams", unfollowed := true, recurses := true, apart := false, narrowed := true }
def ConsStreamsUptoSaid : Prop := consStreamsUptoRow.holds Try.pinned (OpenSpec.upto consStreamsSpec)

/-- 'dumbwaiterlaw28.ConsNames', WHERE WHAT IT READS IS OF BULK AT MOST 1048576: true; the input reads as it did. -/
def consNamesUptoRow : OpenClaim := { program := "ytkjmmbmlapmkbaa", sum := "de52d5d05c11342463aed8bc3e3293600cdcc16fa060797432778dcc45210f97", func := "dumbwaiter/dumbwaiterlaw28.ConsNames", spec := "consNames", unfollowed := true, recurses := true, apart := false, narrowed := true }
def ConsNamesUptoSaid : Prop := consNamesUptoRow.holds Try.pinned (OpenSpec.upto consNamesSpec)

end Rows
end Go.Proofs.Ytkjmmbmlapmkbaa
