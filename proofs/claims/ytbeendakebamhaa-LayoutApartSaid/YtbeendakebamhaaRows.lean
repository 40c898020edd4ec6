/-
  No cell of these rows narrows 'for every input' (looked for: loops, veiled, ifaces, maps, wideKeys, modest, calm, conditions, laid).
  DERIVED. THE GIVEN ROWS OF THIS SEAT. 5 by the template 'for every input the law returns true; each argument reads behind the call as it read before'; 0 by the template 'total and deterministic' (their statements: YtbeendakebamhaaTotals.lean).
  GIVEN WITH THE SEED: the statements are not yours to turn. If you find one false, say at which input.
  Laid BY PROGRAM, IN A SANDBOX (cutbox-rows.mjs): the forced cells as the released guide's own fill.sh prints them over the translation e2b9418e0b36b3c4… (all of the seat's roots in one cut). By AI agents, Wed Nov 11 2026. No macro, syntax, notation, axiom, sorry.
-/
import Derived.Test.YtbeendakebamhaaChecked
import GoSem.Claim
import GoSem.ClaimJoined
import GoSem.ClaimMapViews
import Derived.JoinedTies
import Derived.KernelRfl
namespace Go.Proofs.Ytbeendakebamhaa
/- THE CELL 'sum', in the pinned program and in every row, IS THE sha256 OF THE DUMP (.gsa) THAT YtbeendakebamhaaProg.lean LOADS. Nothing in Lean hashes anything: it is a label: what it is worth is what the hold of that sum in a sandbox is worth. -/
noncomputable def Try.pinned : Pinned := { name := "ytbeendakebamhaa", sum := "e2b9418e0b36b3c4d67b5417213f9a6c122fe85a7b51d9cf125806dff299fe57", checked := Try.checked }
namespace Rows
def none {H : Type} : Left H := { results := [], args := [] }

/-- 'dumbwaiterlaw04.LayoutMoves': WHATEVER THE INPUT: true; the input reads as it did. -/
def layoutMovesSpec : ChangeSpec := { name := "layoutMoves", fn := fun _ => fun
  | [d1, d2, d3, d4, d5] => { results := [.lit (.bool true)], args := [d1, d2, d3, d4, d5] }
  | _ => none }
def layoutMovesRow : OpenClaim := { program := "ytbeendakebamhaa", sum := "e2b9418e0b36b3c4d67b5417213f9a6c122fe85a7b51d9cf125806dff299fe57", func := "dumbwaiter/dumbwaiterlaw04.LayoutMoves", spec := "layoutMoves", apart := false }
def LayoutMovesSaid : Prop := layoutMovesRow.holds Try.pinned (OpenSpec.ofChange layoutMovesSpec)

/-- ITS FALSE NEIGHBOUR: 'it returns false'. Refute it at one input. -/
def layoutMovesWrong : ChangeSpec := { name := "layoutMoves", fn := fun _ => fun
  | [d1, d2, d3, d4, d5] => { results := [.lit (.bool false)], args := [d1, d2, d3, d4, d5] }
  | _ => none }
def LayoutMovesWrongFalsely : Prop := layoutMovesRow.holds Try.pinned (OpenSpec.ofChange layoutMovesWrong)

/-- 'dumbwaiterlaw04.LayoutApart': WHATEVER THE INPUT: true; the input reads as it did. -/
def layoutApartSpec : ChangeSpec := { name := "layoutApart", fn := fun _ => fun
  | [d1, d2, d3, d4, d5] => { results := [.lit (.bool true)], args := [d1, d2, d3, d4, d5] }
  | _ => none }
def layoutApartRow : OpenClaim := { program := "ytbeendakebamhaa", sum := "e2b9418e0b36b3c4d67b5417213f9a6c122fe85a7b51d9cf125806dff299fe57", func := "dumbwaiter/dumbwaiterlaw04.LayoutApart", spec := "layoutApart", unfollowed := true, recurses := true, apart := false }
def LayoutApartSaid : Prop := layoutApartRow.holds Try.pinned (OpenSpec.ofChange layoutApartSpec)

/-- ITS FALSE NEIGHBOUR: 'it returns false'. Refute it at one input. -/
def layoutApartWrong : ChangeSpec := { name := "layoutApart", fn := fun _ => fun
  | [d1, d2, d3, d4, d5] => { results := [.lit (.bool false)], args := [d1, d2, d3, d4, d5] }
  | _ => none }
def LayoutApartWrongFalsely : Prop := layoutApartRow.holds Try.pinned (OpenSpec.ofChange layoutApartWrong)

/-- 'dumbwaiterlaw04.LayoutPlaces': WHATEVER THE INPUT: true; the input reads as it did. -/
def layoutPlacesSpec : ChangeSpec := { name := "layoutPlaces", fn := fun _ => fun
  | [d1, d2, d3] => { results := [.lit (.bool true)], args := [d1, d2, d3] }
  | _ => none }
def layoutPlacesRow : OpenClaim := { program := "ytbeendakebamhaa", sum := "e2b9418e0b36b3c4d67b5417213f9a6c122fe85a7b51d9cf125806dff299fe57", func := "dumbwaiter/dumbwaiterlaw04.LayoutPlaces", spec := "layoutPlaces", unfollowed := true, recurses := true, apart := false }
def LayoutPlacesSaid : Prop := layoutPlacesRow.holds Try.pinned (OpenSpec.ofChange layoutPlacesSpec)

/-- ITS FALSE NEIGHBOUR: 'it returns false'. Refute it at one input. -/
def layoutPlacesWrong : ChangeSpec := { name := "layoutPlaces", fn := fun _ => fun
  | [d1, d2, d3] => { results := [.lit (.bool false)], args := [d1, d2, d3] }
  | _ => none }
def LayoutPlacesWrongFalsely : Prop := layoutPlacesRow.holds Try.pinned (OpenSpec.ofChange layoutPlacesWrong)

/-- 'dumbwaiterlaw04.LayoutNames': WHATEVER THE INPUT: true; the input reads as it did. -/
def layoutNamesSpec : ChangeSpec := { name := "layoutNames", fn := fun _ => fun
  | [] => { results := [.lit (.bool true)], args := [] }
  | _ => none }
def layoutNamesRow : OpenClaim := { program := "ytbeendakebamhaa", sum := "e2b9418e0b36b3c4d67b5417213f9a6c122fe85a7b51d9cf125806dff299fe57", func := "dumbwaiter/dumbwaiterlaw04.LayoutNames", spec := "layoutNames", unfollowed := true, recurses := true, apart := false }
def LayoutNamesSaid : Prop := layoutNamesRow.holds Try.pinned (OpenSpec.ofChange layoutNamesSpec)

/-- ITS FALSE NEIGHBOUR: 'it returns false'. Refute it at one input. -/
def layoutNamesWrong : ChangeSpec := { name := "layoutNames", fn := fun _ => fun
  | [] => { results := [.lit (.bool false)], args := [] }
  | _ => none }
def LayoutNamesWrongFalsely : Prop := layoutNamesRow.holds Try.pinned (OpenSpec.ofChange layoutNamesWrong)

/-- 'dumbwaiterlaw04.LayoutCalls': WHATEVER THE INPUT: true; the input reads as it did. -/
def layoutCallsSpec : ChangeSpec := { name := "layoutCalls", fn := fun _ => fun
  | [d1, d2, d3, d4, d5, d6, d7, d8, d9] => { results := [.lit (.bool true)], args := [d1, d2, d3, d4, d5, d6, d7, d8, d9] }
  | _ => none }
def layoutCallsRow : OpenClaim := { program := "ytbeendakebamhaa", sum := "e2b9418e0b36b3c4d67b5417213f9a6c122fe85a7b51d9cf125806dff299fe57", func := "dumbwaiter/dumbwaiterlaw04.LayoutCalls", spec := "layoutCalls", unfollowed := true, recurses := true, apart := false }
def LayoutCallsSaid : Prop := layoutCallsRow.holds Try.pinned (OpenSpec.ofChange layoutCallsSpec)

/-- ITS FALSE NEIGHBOUR: 'it returns false'. Refute it at one input. -/
def layoutCallsWrong : ChangeSpec := { name := "layoutCalls", fn := fun _ => fun
  | [d1, d2, d3, d4, d5, d6, d7, d8, d9] => { results := [.lit (.bool false)], args := [d1, d2, d3, d4, d5, d6, d7, d8, d9] }
  | _ => none }
def LayoutCallsWrongFalsely : Prop := layoutCallsRow.holds Try.pinned (OpenSpec.ofChange layoutCallsWrong)

/- THE SECOND FORM. 'bulk': how many values and letters a reading holds, each counted each time it is reached (what is shared counts as often as it is met; a slice's spare places count too). A statement '..UptoSaid' is the law's where the arguments, and the package variables that the reading takes, are together of bulk at most 1048576: NARROWER than '..Said'. Prove '..Said' where nothing that the law and all that it calls make is longer than what came in: it says more and counts as full. Else prove '..UptoSaid'. A law counts once. -/
mutual
def uptoBulk {H : Type} : DataW H → Nat
  | .lit (.string bytes) => bytes.length + 1
  | .lit _ => 1
  | .nil => 1
  | .ptr d => uptoBulk d + 1
  | .slice elems spare => uptoBulkAll elems + uptoBulkAll spare + 1
  | .agg parts => uptoBulkAll parts + 1
  | .iface _ d => uptoBulk d + 1
  | .map entries => uptoBulkEntries entries + 1
  | .held _ => 1
def uptoBulkAll {H : Type} : List (DataW H) → Nat
  | [] => 0
  | d :: r => uptoBulk d + uptoBulkAll r
def uptoBulkEntries {H : Type} : List (Lit × DataW H) → Nat
  | [] => 0
  | x :: r => uptoBulkEntry x + uptoBulkEntries r
def uptoBulkEntry {H : Type} : Lit × DataW H → Nat
  | (.string bytes, d) => bytes.length + uptoBulk d + 1
  | (_, d) => uptoBulk d + 1
 end
def uptoSmall : (H : Type) → List (DataW H) → Bool := fun _ ds => decide (uptoBulkAll ds ≤ 1048576)
def OpenSpec.upto (s : _root_.Go.ChangeSpec) : _root_.Go.OpenSpec := { _root_.Go.OpenSpec.ofChange s with cond := some uptoSmall }

/-- 'dumbwaiterlaw04.LayoutMoves', WHERE WHAT IT READS IS OF BULK AT MOST 1048576: true; the input reads as it did. -/
def layoutMovesUptoRow : OpenClaim := { program := "ytbeendakebamhaa", sum := "e2b9418e0b36b3c4d67b5417213f9a6c122fe85a7b51d9cf125806dff299fe57", func := "dumbwaiter/dumbwaiterlaw04.LayoutMoves", spec := "layoutMoves", apart := false, narrowed := true }
def LayoutMovesUptoSaid : Prop := layoutMovesUptoRow.holds Try.pinned (OpenSpec.upto layoutMovesSpec)

/-- 'dumbwaiterlaw04.LayoutApart', WHERE WHAT IT READS IS OF BULK AT MOST 1048576: true; the input reads as it did. -/
def layoutApartUptoRow : OpenClaim := { program := "ytbeendakebamhaa", sum := "e2b9418e0b36b3c4d67b5417213f9a6c122fe85a7b51d9cf125806dff299fe57", func := "dumbwaiter/dumbwaiterlaw04.LayoutApart", spec := "layoutApart", unfollowed := true, recurses := true, apart := false, narrowed := true }
def LayoutApartUptoSaid : Prop := layoutApartUptoRow.holds Try.pinned (OpenSpec.upto layoutApartSpec)

/-- 'dumbwaiterlaw04.LayoutPlaces', WHERE WHAT IT READS IS OF BULK AT MOST 1048576: true; the input reads as it did. -/
def layoutPlacesUptoRow : OpenClaim := { program := "ytbeendakebamhaa", sum := "e2b9418e0b36b3c4d67b5417213f9a6c122fe85a7b51d9cf125806dff299fe57", func := "dumbwaiter/dumbwaiterlaw04.LayoutPlaces", spec := "layoutPlaces", unfollowed := true, recurses := true, apart := false, narrowed := true }
def LayoutPlacesUptoSaid : Prop := layoutPlacesUptoRow.holds Try.pinned (OpenSpec.upto layoutPlacesSpec)

/-- 'dumbwaiterlaw04.LayoutNames', WHERE WHAT IT READS IS OF BULK AT MOST 1048576: true; the input reads as it did. -/
def layoutNamesUptoRow : OpenClaim := { program := "ytbeendakebamhaa", sum := "e2b9418e0b36b3c4d67b5417213f9a6c122fe85a7b51d9cf125806dff299fe57", func := "dumbwaiter/dumbwaiterlaw04.LayoutNames", spec := "layoutNames", unfollowed := true, recurses := true, apart := false, narrowed := true }
def LayoutNamesUptoSaid : Prop := layoutNamesUptoRow.holds Try.pinned (OpenSpec.upto layoutNamesSpec)

/-- 'dumbwaiterlaw04.LayoutCalls', WHERE WHAT IT READS IS OF BULK AT MOST 1048576: true; the input reads as it did. -/
def layoutCallsUptoRow : OpenClaim := { program := "ytbeendakebamhaa", sum := "e2b9418e0b36b3c4d67b5417213f9a6c122fe85a7b51d9cf125806dff299fe57", func := "dumbwaiter/dumbwaiterlaw04.LayoutCalls", spec := "layoutCalls", unfollowed := true, recurses := true, apart := false, narrowed := true }
def LayoutCallsUptoSaid : Prop := layoutCallsUptoRow.holds Try.pinned (OpenSpec.upto layoutCallsSpec)

end Rows
end Go.Proofs.Ytbeendakebamhaa
